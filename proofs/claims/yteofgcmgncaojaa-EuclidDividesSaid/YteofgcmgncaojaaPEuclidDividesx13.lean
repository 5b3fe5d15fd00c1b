/- The Go functions as Lean functions, each with the proof that its call comes to just that; written by a program of this session, by the words of the print. -/
import Derived.Test.YteofgcmgncaojaaPEuclidDividesx0
import Derived.Test.YteofgcmgncaojaaPEuclidDividesx1
import Derived.Test.YteofgcmgncaojaaPEuclidDividesx3
import Derived.Test.YteofgcmgncaojaaPEuclidDividesx4
import Derived.Test.YteofgcmgncaojaaPEuclidDividesx5
import Derived.Test.YteofgcmgncaojaaPEuclidDividesx6
import Derived.Test.YteofgcmgncaojaaPEuclidDividesx9
import Derived.Test.YteofgcmgncaojaaPEuclidDividesx12
namespace Go.Proofs.Yteofgcmgncaojaa.PEuclidDivides
open Go.RowKit Go.Proofs.YteofgcmgncaojaaW.PrintWords Go.Proofs.YteofgcmgncaojaaW.PrintLast Go.Proofs.YteofgcmgncaojaaW.PrintMore
attribute [local go_sem] max2_int min2_int max_two min_two max_three min_three max_four min_four   -- for this text's walks alone
set_option linter.unusedVariables false
set_option linter.unusedSimpArgs false
/-! ### euclid_Modulo: function 12 -/
def euclid_Modulo.j0 : Nat → Int → List Int → Int → Bool → List Int → List Int → List Int → Option (List Int × Bool × Int)
 | 0, _, _, _, _, _, _, _ => none
 | k + 1, x0, x2, x8, x52, x523000, x523001, x523002 => if x52 = true then (some (([] : List Int), false, x8)) else (if 0 < (x523000.length : Int) then ((field_Inv.f k x0 (rd x523000 0)).bind fun bt524 => (if bt524.2 = 0 then ((poly_Scale.f k x0 bt524.1 x523002).bind fun bt526 => (if bt526.2 = 0 then ((poly_DivMod.f k x0 bt526.1 x2).bind fun bt530 => (some (bt530.2.1, (bt530.2.2 == 0), bt530.2.2))) else (some (([] : List Int), false, bt526.2)))) else (some (([] : List Int), false, bt524.2)))) else (none))
def euclid_Modulo.f (k : Nat) (a0 : Int) (l1 : List Int) (l2 : List Int) : Option (List Int × Bool × Int) := (euclid_may.f k a0 (([l1, l2] : List (List Int)))).bind fun t503 => (if t503 = 0 then ((poly_Degree.f k l2).bind fun t504 => (if t504 = (-1) then (some (([] : List Int), false, 5)) else (if t504 = 0 then (some (([] : List Int), true, 0)) else ((poly_DivMod.f k a0 l1 l2).bind fun bt505 => (if bt505.2.2 = 0 then ((euclid_partial.f k a0 l2 bt505.2.1 1).bind fun bt512 => (if bt512.2.2.2 = 0 then (euclid_Modulo.j0 k a0 l2 bt512.2.2.2 ((bt512.1.length : Int) == 0) bt512.1 bt512.2.1 bt512.2.2.1) else (euclid_Modulo.j0 k a0 l2 bt512.2.2.2 true bt512.1 bt512.2.1 bt512.2.2.1))) else (some (([] : List Int), false, bt505.2.2))))))) else (some (([] : List Int), false, t503)))
theorem euclid_Modulo.mono_l : ∀ k, (∀ y0 y1 y2 y3 y4 y5 y6, LeO (euclid_Modulo.j0 k y0 y1 y2 y3 y4 y5 y6) (euclid_Modulo.j0 (k + 1) y0 y1 y2 y3 y4 y5 y6))
 | 0 => fun _ _ _ _ _ _ _ r h => by simp [euclid_Modulo.j0] at h
 | k + 1 => by
  have ih0 := euclid_Modulo.mono_l k
  ·intro y0 y1 y2 y3 y4 y5 y6
   unfold euclid_Modulo.j0
   repeat' first
   | (with_reducible exact ih0 _ _ _ _ _ _ _)
   | (with_reducible exact euclid_may.mono _ _ _)
   | (with_reducible exact euclid_partial.mono _ _ _ _ _)
   | (with_reducible exact field_Inv.mono _ _ _)
   | (with_reducible exact poly_Degree.mono _ _)
   | (with_reducible exact poly_DivMod.mono _ _ _ _)
   | (with_reducible exact poly_Scale.mono _ _ _ _)
   | (with_reducible exact LeO.refl _)
   | (with_reducible exact LeO.none _)
   | (with_reducible refine LeO.ite ?_ ?_)
   | (with_reducible refine LeO.bind ?_ (fun _ => ?_))
   | exact ih0 _ _ _ _ _ _ _
   | exact euclid_may.mono _ _ _
   | exact euclid_partial.mono _ _ _ _ _
   | exact field_Inv.mono _ _ _
   | exact poly_Degree.mono _ _
   | exact poly_DivMod.mono _ _ _ _
   | exact poly_Scale.mono _ _ _ _
   | exact LeO.none _
   | refine LeO.ite ?_ ?_
   | refine LeO.bind ?_ (fun _ => ?_)
theorem euclid_Modulo.mono : ∀ a0 a1 a2 k, LeO (euclid_Modulo.f k a0 a1 a2) (euclid_Modulo.f (k + 1) a0 a1 a2) := by
 intro a0 a1 a2 k
 have ih0 := euclid_Modulo.mono_l k
 unfold euclid_Modulo.f
 repeat' first
   | (with_reducible exact ih0 _ _ _ _ _ _ _)
   | (with_reducible exact euclid_may.mono _ _ _)
   | (with_reducible exact euclid_partial.mono _ _ _ _ _)
   | (with_reducible exact field_Inv.mono _ _ _)
   | (with_reducible exact poly_Degree.mono _ _)
   | (with_reducible exact poly_DivMod.mono _ _ _ _)
   | (with_reducible exact poly_Scale.mono _ _ _ _)
   | (with_reducible exact LeO.refl _)
   | (with_reducible exact LeO.none _)
   | (with_reducible refine LeO.ite ?_ ?_)
   | (with_reducible refine LeO.bind ?_ (fun _ => ?_))
   | exact ih0 _ _ _ _ _ _ _
   | exact euclid_may.mono _ _ _
   | exact euclid_partial.mono _ _ _ _ _
   | exact field_Inv.mono _ _ _
   | exact poly_Degree.mono _ _
   | exact poly_DivMod.mono _ _ _ _
   | exact poly_Scale.mono _ _ _ _
   | exact LeO.none _
   | refine LeO.ite ?_ ?_
   | refine LeO.bind ?_ (fun _ => ?_)
set_option maxHeartbeats 8000000 in
set_option maxRecDepth 100000 in
theorem euclid_Modulo.calls (k : Nat) (a0 : Int) (P1_ : Nat → Prop) (A1 : Option Addr) (c1 : Nat) (l1 : List Int) (P2_ : Nat → Prop) (A2 : Option Addr) (c2 : Nat) (l2 : List Int) (r1 : List Int) (r2 : Bool) (r3 : Int) (w : World) (hs1 : Kd.V (Kd.int .u64) 40 w w.heap.size (fun k_ => P1_ k_) (.slice A1 l1.length c1) l1) (hs2 : Kd.V (Kd.int .u64) 40 w w.heap.size (fun k_ => P2_ k_) (.slice A2 l2.length c2) l2) (h : euclid_Modulo.f k a0 l1 l2 = some (r1, r2, r3)) :
  Calls Try.prog 12 #[.int .u8 a0, .slice A1 l1.length c1, .slice A2 l2.length c2] w fun e w' => ∃ v0_ : Value, e = .returned (.tuple #[v0_, .bool r2, .int .i64 r3]) ∧ Kd.R (Kd.int .u64) 40 w' w.heap.size (fun k_ => (w.heap.size ≤ k_)) v0_ r1 ∧ Below w.heap.size w w' := by
 have hu61 := Try.underlying61
 have HO1 := A_ (show Kd.V (Kd.int .u64) 40 w w.heap.size (fun k_ => ((P1_ k_ ∨ P2_ k_) ∨ w.heap.size ≤ k_)) (.slice A1 l1.length c1) l1 from Kd.V_mono hs1 (fun k_ hk => .inl (.inl hk)))
 have HO2 := A_ (show Kd.V (Kd.int .u64) 40 w w.heap.size (fun k_ => ((P1_ k_ ∨ P2_ k_) ∨ w.heap.size ≤ k_)) (.slice A2 l2.length c2) l2 from Kd.V_mono hs2 (fun k_ hk => .inl (.inr hk)))
 have HB := A_ (Below.refl w.heap.size w)
 have H : ((euclid_may.f k a0 (([l1, l2] : List (List Int)))).bind fun t503 => (if t503 = 0 then ((poly_Degree.f k l2).bind fun t504 => (if t504 = (-1) then (some (([] : List Int), false, 5)) else (if t504 = 0 then (some (([] : List Int), true, 0)) else ((poly_DivMod.f k a0 l1 l2).bind fun bt505 => (if bt505.2.2 = 0 then ((euclid_partial.f k a0 l2 bt505.2.1 1).bind fun bt512 => (if bt512.2.2.2 = 0 then (euclid_Modulo.j0 k a0 l2 bt512.2.2.2 ((bt512.1.length : Int) == 0) bt512.1 bt512.2.1 bt512.2.2.1) else (euclid_Modulo.j0 k a0 l2 bt512.2.2.2 true bt512.1 bt512.2.1 bt512.2.2.1))) else (some (([] : List Int), false, bt505.2.2))))))) else (some (([] : List Int), false, t503)))) = some (r1, r2, r3) := h
 clear h
 obtain ⟨y500, hy500⟩ : ∃ y_ : List (List Int), y_ = (([l1, l2] : List (List Int))) := ⟨_, rfl⟩
 replace H : ((euclid_may.f k a0 y500).bind fun t503 => (if t503 = 0 then ((poly_Degree.f k l2).bind fun t504 => (if t504 = (-1) then (some (([] : List Int), false, 5)) else (if t504 = 0 then (some (([] : List Int), true, 0)) else ((poly_DivMod.f k a0 l1 l2).bind fun bt505 => (if bt505.2.2 = 0 then ((euclid_partial.f k a0 l2 bt505.2.1 1).bind fun bt512 => (if bt512.2.2.2 = 0 then (euclid_Modulo.j0 k a0 l2 bt512.2.2.2 ((bt512.1.length : Int) == 0) bt512.1 bt512.2.1 bt512.2.2.1) else (euclid_Modulo.j0 k a0 l2 bt512.2.2.2 true bt512.1 bt512.2.1 bt512.2.2.1))) else (some (([] : List Int), false, bt505.2.2))))))) else (some (([] : List Int), false, t503)))) = some (r1, r2, r3) := by first | (rw [hy500]; with_reducible exact H) | (have H2_ := (Option.bind_some _ _).symm.trans H; rw [hy500]; with_reducible exact H2_) | (have H2_ := (Option.bind_some _ _).symm.trans H; with_reducible exact H2_) | with_reducible exact H | (rw [hy500]; exact H) | exact H
 have Ny500 := Aside0.mk hy500
 clear hy500
 replace H := Option.bind_eq_some_iff.mp H
 obtain ⟨t503, A40, H⟩ := H
 (try dsimp only at H)
 have A4 := Aside0.mk A40
 clear A40
 have HC5 := Aside0.mk H
 clear H
 go_enter Try.func12, Try.ntmps12
 go_upto_if 19 with (first | ((with_reducible refine gate_dst (N := 16) rfl ?_); (try (refine gate_guard (by rfl) ?_; dsimp only)); refine Kd.N_lit (Kd.slice 40 (Kd.int .u64)) _ 22 ?hg (N' := 16) ?hd (xs := ([l1, l2] : List (List Int))) (inner := [.slice A1 l1.length c1, .slice A2 l2.length c2]) (ok := (fun k_ => ((P1_ k_ ∨ P2_ k_) ∨ w.heap.size ≤ k_))) (okp := (fun k_ => ((P1_ k_ ∨ P2_ k_) ∨ w.heap.size ≤ k_))) ?hr ?hp (fun _ hk => hk) ((show ∀ k_, w.heap.size ≤ k_ → (fun k_ => ((P1_ k_ ∨ P2_ k_) ∨ w.heap.size ≤ k_)) k_ from fun k_ hk => (.inr (Nat.le_trans (below_size hb_) hk))) _ (Nat.le_refl _)) (Below.refl _ _) (Nat.le_refl _) (by simp) ?_; (case hd => rfl); (case hg => rfl); (case hr => first | (go_simp; done) | (go_simp; rfl)); (case hp => exact (Reps.one (show Kd.FK (Kd.slice 40 (Kd.int .u64)) _ _ l1 [.slice A1 l1.length c1] from (Kd.FK_slice_mk (Kd.V_reads' (Kd.V_mono (ok' := (fun k_ => ((P1_ k_ ∨ P2_ k_) ∨ w.heap.size ≤ k_))) (HO1.out) (fun k_ hk => hk))).2.1 (Kd.V_F (Kd.V_mono (ok' := (fun k_ => ((P1_ k_ ∨ P2_ k_) ∨ w.heap.size ≤ k_))) (HO1.out) (fun k_ hk => hk))))) (Reps.one (show Kd.FK (Kd.slice 40 (Kd.int .u64)) _ _ l2 [.slice A2 l2.length c2] from (Kd.FK_slice_mk (Kd.V_reads' (Kd.V_mono (ok' := (fun k_ => ((P1_ k_ ∨ P2_ k_) ∨ w.heap.size ≤ k_))) (HO2.out) (fun k_ hk => hk))).2.1 (Kd.V_F (Kd.V_mono (ok' := (fun k_ => ((P1_ k_ ∨ P2_ k_) ∨ w.heap.size ≤ k_))) (HO2.out) (fun k_ hk => hk))))) (Reps.none _ _)))); intro v501 w6 ho7 hb hg_ hnew_; clear hg_ hnew_; (first | rw [← Ny500.out] at ho7 | (simp only [Int.reduceToNat] at ho7; rw [← Ny500.out] at ho7)); have n0_ := A_ (Kd.V_below (nV_ HO1) hb); have n1_ := A_ (Kd.V_below (nV_ HO2) hb); have n2_ := A_ (Kd.N_lower ho7 (below_size hb_)); have n3_ := A_ (below_step hb_ hb); clear HO1 HO2 HB; have HO1 := n0_; have HO2 := n1_; have HO502 := n2_; have HB := n3_; clear n0_ n1_ n2_ n3_; clear hb ho7; obtain ⟨Ao8, co8, eo8⟩ := Kd.N_slice HO502.out; subst eo8) | ((with_reducible refine gate_callee (f := 27) rfl ?_); refine goesM_ (some 17) Try.func27 #[.int .u8 a0, .slice Ao8 y500.length co8] ?_; (with_reducible refine (euclid_may.calls k a0 _ _ y500 t503 _ ?side1 ?side2 A4.out).mono ?_); (case side1 => repeat (first | exact (Kd.N_reads' HO502.out).2.2 | (with_reducible refine Kd.C_alloc ?_ _) | (with_reducible refine Kd.C_drewN ?_ _) | (with_reducible refine Kd.C_drew ?_))); (case side2 => exact (Kd.N_reads' HO502.out).2.1); rintro e w9 ⟨rfl, hb⟩; refine ⟨_, rfl, ?_⟩; have n0_ := A_ (Kd.V_below (nV_ HO1) hb); have n1_ := A_ (Kd.V_below (nV_ HO2) hb); have n2_ := A_ (Kd.N_below (nN_ HO502) hb); have n3_ := A_ (below_step hb_ hb); clear HO1 HO2 HO502 HB; have HO1 := n0_; have HO2 := n1_; have HO502 := n2_; have HB := n3_; clear n0_ n1_ n2_ n3_; (try clear hb)))
 (try simp only [Act.put, List.setIfInBounds_toArray, List.set_cons_zero, List.set_cons_succ])
 have H := HC5.out
 clear HC5
 by_cases c10 : t503 = 0
 ·rw [if_pos c10] at H
  have c10b0 : (t503 == 0) = true := beq_iff_eq.mpr c10
  have c10b1 : (t503 != 0) = false := bne_eq_false_iff_eq.mpr c10
  clear c10
  (first | rw [c10b0] | rw [c10b1] | (simp only [i64_w, i32_w]; first | rw [c10b0] | rw [c10b1]) | skip)
  replace H := Option.bind_eq_some_iff.mp H
  obtain ⟨t504, A110, H⟩ := H
  (try dsimp only at H)
  have A11 := Aside0.mk A110
  clear A110
  have HC12 := Aside0.mk H
  clear H
  go_upto_if 23 with (first | ((with_reducible refine gate_callee (f := 33) rfl ?_); refine goesM_ (some 22) Try.func33 #[.slice A2 l2.length c2] ?_; (with_reducible refine (poly_Degree.calls k _ _ l2 t504 _ ?side1 ?side2 A11.out).mono ?_); (case side1 => repeat (first | exact (Kd.V_reads' HO2.out).2.2 | (with_reducible refine Kd.C_alloc ?_ _) | (with_reducible refine Kd.C_drewN ?_ _) | (with_reducible refine Kd.C_drew ?_))); (case side2 => exact (Kd.V_reads' HO2.out).2.1); rintro e w13 ⟨rfl, hb⟩; refine ⟨_, rfl, ?_⟩; have n0_ := A_ (Kd.V_below (nV_ HO1) hb); have n1_ := A_ (Kd.V_below (nV_ HO2) hb); have n2_ := A_ (Kd.N_below (nN_ HO502) hb); have n3_ := A_ (below_step hb_ hb); clear HO1 HO2 HO502 HB; have HO1 := n0_; have HO2 := n1_; have HO502 := n2_; have HB := n3_; clear n0_ n1_ n2_ n3_; (try clear hb)))
  (try simp only [Act.put, List.setIfInBounds_toArray, List.set_cons_zero, List.set_cons_succ])
  have H := HC12.out
  clear HC12
  by_cases c14 : t504 = (-1)
  ·rw [if_pos c14] at H
   have c14b0 : (t504 == (-1)) = true := beq_iff_eq.mpr c14
   have c14b1 : (t504 != (-1)) = false := bne_eq_false_iff_eq.mpr c14
   clear c14
   (first | rw [c14b0] | rw [c14b1] | (simp only [i64_w, i32_w]; first | rw [c14b0] | rw [c14b1]) | skip)
   simp only [Option.some.injEq, Prod.mk.injEq] at H
   obtain ⟨rfl, rfl, rfl⟩ := H
   go_wp2
   go_ret3
   exact ⟨_, fr_, by first | exact Kd.R_nil _ _ _ _ _ | exact Kd.N_nil _ _ _ _ _ | exact Kd.V_nil _ _ _ _ _ | exact Kd.Q_nil _ _ _ _ _ | exact Kd.S_nil _ _ _ _ _, hb_⟩
  ·rw [if_neg c14] at H
   have c14b0 : (t504 == (-1)) = false := beq_eq_false_iff_ne.mpr c14
   have c14b1 : (t504 != (-1)) = true := bne_iff_ne.mpr c14
   (first | rw [c14b0] | rw [c14b1] | (simp only [i64_w, i32_w]; first | rw [c14b0] | rw [c14b1]) | skip)
   by_cases c15 : t504 = 0
   ·rw [if_pos c15] at H
    have c15b0 : (t504 == 0) = true := beq_iff_eq.mpr c15
    have c15b1 : (t504 != 0) = false := bne_eq_false_iff_eq.mpr c15
    clear c15
    simp only [Option.some.injEq, Prod.mk.injEq] at H
    obtain ⟨rfl, rfl, rfl⟩ := H
    go_wp2
    go_ret3
    exact ⟨_, fr_, by first | exact Kd.R_nil _ _ _ _ _ | exact Kd.N_nil _ _ _ _ _ | exact Kd.V_nil _ _ _ _ _ | exact Kd.Q_nil _ _ _ _ _ | exact Kd.S_nil _ _ _ _ _, hb_⟩
   ·rw [if_neg c15] at H
    have c15b0 : (t504 == 0) = false := beq_eq_false_iff_ne.mpr c15
    have c15b1 : (t504 != 0) = true := bne_iff_ne.mpr c15
    replace H := Option.bind_eq_some_iff.mp H
    obtain ⟨⟨t505, t508, t511⟩, A160, H⟩ := H
    (try dsimp only at H)
    have A16 := Aside0.mk A160
    clear A160
    have HC17 := Aside0.mk H
    clear H
    go_upto_if 36 with (first | ((with_reducible refine gate_callee (f := 29) rfl ?_); refine goesM_ (some 31) Try.func29 #[.int .u8 a0, .slice A1 l1.length c1, .slice A2 l2.length c2] ?_; (with_reducible refine (poly_DivMod.calls k a0 (fun k_ => ((P1_ k_ ∨ P2_ k_) ∨ w.heap.size ≤ k_)) _ _ l1 (fun k_ => ((P1_ k_ ∨ P2_ k_) ∨ w.heap.size ≤ k_)) _ _ l2 t505 t508 t511 _ ?side1 ?side2 A16.out).mono ?_); (case side1 => exact HO1.out); (case side2 => exact HO2.out); rintro e w18 ⟨v506, v509, rfl, ho0, ho1, hb⟩; refine ⟨_, rfl, ?_⟩; have n0_ := A_ (Kd.V_below (nV_ HO1) hb); have n1_ := A_ (Kd.V_below (nV_ HO2) hb); have n2_ := A_ (Kd.N_below (nN_ HO502) hb); have n3_ := A_ (Kd.R_lower (Kd.R_newM (M := fun k_ => (w.heap.size ≤ k_)) (Kd.R_mono (ok' := fun k_ => True) ho0 (fun _ hk_ => trivial)) (below_size hb_) (fun k_ h_ => h_)) (below_size hb_)); have n4_ := A_ (Kd.R_lower (Kd.R_newM (M := fun k_ => (w.heap.size ≤ k_)) (Kd.R_mono (ok' := fun k_ => True) ho1 (fun _ hk_ => trivial)) (below_size hb_) (fun k_ h_ => h_)) (below_size hb_)); have n5_ := A_ (below_step hb_ hb); clear HO1 HO2 HO502 HB; have HO1 := n0_; have HO2 := n1_; have HO502 := n2_; have HO507 := n3_; have HO510 := n4_; have HB := n5_; clear n0_ n1_ n2_ n3_ n4_ n5_; (try clear hb); (try clear ho0); (try clear ho1)))
    (try simp only [Act.put, List.setIfInBounds_toArray, List.set_cons_zero, List.set_cons_succ])
    have H := HC17.out
    clear HC17
    by_cases c19 : t511 = 0
    ·rw [if_pos c19] at H
     have c19b0 : (t511 == 0) = true := beq_iff_eq.mpr c19
     have c19b1 : (t511 != 0) = false := bne_eq_false_iff_eq.mpr c19
     clear c19
     (first | rw [c19b0] | rw [c19b1] | (simp only [i64_w, i32_w]; first | rw [c19b0] | rw [c19b1]) | skip)
     replace H := Option.bind_eq_some_iff.mp H
     obtain ⟨⟨t512, t515, t518, t521⟩, A200, H⟩ := H
     replace H : (if t521 = 0 then (euclid_Modulo.j0 k a0 l2 t521 ((t512.length : Int) == 0) t512 t515 t518) else (euclid_Modulo.j0 k a0 l2 t521 true t512 t515 t518)) = some (r1, r2, r3) := H
     have A20 := Aside0.mk A200
     clear A200
     have HC21 := Aside0.mk H
     clear H
     obtain ⟨Ao22, co22, eo22⟩ := Kd.R_slice HO510.out
     subst eo22
     go_upto_region 13 with (first | ((with_reducible refine gate_callee (f := 34) rfl ?_); refine goesM_ (some 42) Try.func34 #[.int .u8 a0, .slice A2 l2.length c2, .slice Ao22 t508.length co22, .int .i64 1] ?_; (with_reducible refine (euclid_partial.calls k a0 _ _ l2 _ _ t508 1 t512 t515 t518 t521 _ ?side1 ?side2 ?side3 ?side4 A20.out).mono ?_); (case side1 => repeat (first | exact (Kd.V_reads' HO2.out).2.2 | (with_reducible refine Kd.C_alloc ?_ _) | (with_reducible refine Kd.C_drewN ?_ _) | (with_reducible refine Kd.C_drew ?_))); (case side2 => exact (Kd.V_reads' HO2.out).2.1); (case side3 => repeat (first | exact (Kd.R_reads' HO510.out).2.2 | (with_reducible refine Kd.C_alloc ?_ _) | (with_reducible refine Kd.C_drewN ?_ _) | (with_reducible refine Kd.C_drew ?_))); (case side4 => exact (Kd.R_reads' HO510.out).2.1); rintro e w23 ⟨v513, v516, v519, rfl, ho0, ho1, ho2, hb⟩; refine ⟨_, rfl, ?_⟩; have n0_ := A_ (Kd.V_below (nV_ HO1) hb); have n1_ := A_ (Kd.V_below (nV_ HO2) hb); have n2_ := A_ (Kd.N_below (nN_ HO502) hb); have n3_ := A_ (Kd.R_below (nR_ HO507) hb); have n4_ := A_ (Kd.R_below (nR_ HO510) hb); have n5_ := A_ (Kd.R_lower (Kd.R_newM (M := fun k_ => (w.heap.size ≤ k_)) (Kd.R_mono (ok' := fun _ => True) ho0 (fun _ _ => trivial)) (below_size hb_) (fun k_ h_ => h_)) (below_size hb_)); have n6_ := A_ (Kd.R_lower (Kd.R_newM (M := fun k_ => (w.heap.size ≤ k_)) (Kd.R_mono (ok' := fun _ => True) ho1 (fun _ _ => trivial)) (below_size hb_) (fun k_ h_ => h_)) (below_size hb_)); have n7_ := A_ (Kd.R_lower (Kd.R_newM (M := fun k_ => (w.heap.size ≤ k_)) (Kd.R_mono (ok' := fun _ => True) ho2 (fun _ _ => trivial)) (below_size hb_) (fun k_ h_ => h_)) (below_size hb_)); have n8_ := A_ (below_step hb_ hb); clear HO1 HO2 HO502 HO507 HO510 HB; have HO1 := n0_; have HO2 := n1_; have HO502 := n2_; have HO507 := n3_; have HO510 := n4_; have HO514 := n5_; have HO517 := n6_; have HO520 := n7_; have HB := n8_; clear n0_ n1_ n2_ n3_ n4_ n5_ n6_ n7_ n8_; (try clear hb); (try clear ho0); (try clear ho1); (try clear ho2)) | ((with_reducible refine gate_dst (N := 11) rfl ?_); (try (refine gate_guard (by rfl) ?_; dsimp only)); refine box_event ?hg (N := 11) ?hd (cs := #[.slice none 0 0, .slice none 0 0, .slice none 0 0]) (t := 61) ?hr ?_; (case hd => rfl); (case hg => rfl); (case hr => first | (go_simp; done) | (go_simp; rfl)); intro gb522 hg w24 hbox hb; have n0_ := A_ (Kd.V_below (Kd.V_elderB (nV_ HO1) gb522 (Nat.le_of_eq hg.symm)) hb); have n1_ := A_ (Kd.V_below (Kd.V_elderB (nV_ HO2) gb522 (Nat.le_of_eq hg.symm)) hb); have n2_ := A_ (Kd.N_below (Kd.N_elderB (nN_ HO502) gb522 (Nat.le_of_eq hg.symm)) hb); have n3_ := A_ (Kd.R_below (nR_ HO507) hb); have n4_ := A_ (Kd.R_below (nR_ HO510) hb); have n5_ := A_ (Kd.R_below (nR_ HO514) hb); have n6_ := A_ (Kd.R_below (nR_ HO517) hb); have n7_ := A_ (Kd.R_below (nR_ HO520) hb); have n8_ := A_ (below_step hb_ hb); have n9_ := A_ (hbox); have n10_ := A_ ((by rw [hg]; exact (below_size hb_) : w.heap.size ≤ gb522)); have n11_ := A_ ((by rw [hg]; exact (below_size hb_) : w.heap.size ≤ gb522)); clear HO1 HO2 HO502 HO507 HO510 HO514 HO517 HO520 HB; have HO1 := n0_; have HO2 := n1_; have HO502 := n2_; have HO507 := n3_; have HO510 := n4_; have HO514 := n5_; have HO517 := n6_; have HO520 := n7_; have HB := n8_; have BK522 := n9_; have GW522 := n10_; have GE522 := n11_; clear n0_ n1_ n2_ n3_ n4_ n5_ n6_ n7_ n8_ n9_ n10_ n11_; clear hb hbox hg; obtain ⟨Ao25, co25, eo25⟩ := Kd.R_slice HO514.out; subst eo25; have hcz26_0 : w24.cell? ⟨gb522, 0, none⟩ = some (.slice none 0 0) := (blk_cell BK522.out 0).trans rfl; have hcz26_1 : w24.cell? ⟨gb522, 1, none⟩ = some (.slice none 0 0) := (blk_cell BK522.out 1).trans rfl; have hcz26_2 : w24.cell? ⟨gb522, 2, none⟩ = some (.slice none 0 0) := (blk_cell BK522.out 2).trans rfl; have hfz26_0 := blk_frozen BK522.out 0; have hfz26_1 := blk_frozen BK522.out 1; have hfz26_2 := blk_frozen BK522.out 2; obtain ⟨Ao27, co27, eo27⟩ := Kd.R_slice HO517.out; subst eo27; obtain ⟨Ao28, co28, eo28⟩ := Kd.R_slice HO520.out; subst eo28))
     (try simp only [Act.put, List.setIfInBounds_toArray, List.set_cons_zero, List.set_cons_succ])
     go_cut [52] (fun v52 wc => ∃ (kq : Nat) (x52_20 : Bool), v52 = .bool x52_20 ∧ Aside0 (euclid_Modulo.j0 kq a0 l2 t521 x52_20 t512 t515 t518 = some (r1, r2, r3)) ∧ Aside0 (kq ≤ k) ∧ Aside0 (Kd.V (Kd.int .u64) 40 wc w.heap.size (fun k_ => ((P1_ k_ ∨ P2_ k_) ∨ w.heap.size ≤ k_) ∧ k_ ≠ gb522) (.slice A2 l2.length c2) l2) ∧ Aside0 (Kd.R (Kd.int .u64) 40 wc w.heap.size (fun k_ => (w.heap.size ≤ k_)) (.slice Ao25 t512.length co25) t512) ∧ Aside0 (Kd.R (Kd.int .u64) 40 wc w.heap.size (fun k_ => (w.heap.size ≤ k_)) (.slice Ao27 t515.length co27) t515) ∧ Aside0 (Kd.R (Kd.int .u64) 40 wc w.heap.size (fun k_ => (w.heap.size ≤ k_)) (.slice Ao28 t518.length co28) t518) ∧ Aside0 (wc.heap[gb522]? = some (.cells #[(.slice Ao25 t512.length co25), (.slice Ao27 t515.length co27), (.slice Ao28 t518.length co28)] 61 (0, 0))) ∧ Aside0 (Below w.heap.size w wc))
     case first =>
      have H := HC21.out
      clear HC21
      by_cases c29 : t521 = 0
      ·rw [if_pos c29] at H
       have c29b0 : (t521 == 0) = true := beq_iff_eq.mpr c29
       have c29b1 : (t521 != 0) = false := bne_eq_false_iff_eq.mpr c29
       clear c29
       (first | rw [c29b0] | rw [c29b1] | (simp only [i64_w, i32_w]; first | rw [c29b0] | rw [c29b1]) | skip)
       have H' := Aside0.mk H
       clear H
       have hcz30_0 : w24.cell? ⟨gb522, 0, none⟩ = some (.slice none 0 0) := (blk_cell BK522.out 0).trans rfl
       have hcz30_1 : w24.cell? ⟨gb522, 1, none⟩ = some (.slice none 0 0) := (blk_cell BK522.out 1).trans rfl
       have hcz30_2 : w24.cell? ⟨gb522, 2, none⟩ = some (.slice none 0 0) := (blk_cell BK522.out 2).trans rfl
       have hfz30_0 := blk_frozen BK522.out 0
       have hfz30_1 := blk_frozen BK522.out 1
       have hfz30_2 := blk_frozen BK522.out 2
       go_wp2
       go_meet
       case rel => exact ⟨_, (((t512.length : Int) == 0)), (fs_), H', ⟨fo_⟩, ⟨by (with_reducible repeat (first | apply Kd.V_alloc | apply Kd.V_drewN | apply Kd.V_drew)); exact Kd.V_mono (Kd.V_far (p := ⟨gb522, 2, none⟩) (Kd.V_far (p := ⟨gb522, 1, none⟩) (Kd.V_far (p := ⟨gb522, 0, none⟩) (Kd.V_mono HO2.out (fun k_ hk => (⟨hk, hk.2⟩ : _ ∧ k_ ≠ gb522))) (fun _ hk => hk.2) (.slice Ao25 t512.length co25)) (fun _ hk => hk.2) (.slice Ao27 t515.length co27)) (fun _ hk => hk.2) (.slice Ao28 t518.length co28)) (fun _ hk => ⟨hk.1.1, hk.1.2⟩)⟩, ⟨by (with_reducible repeat (first | apply Kd.R_alloc | apply Kd.R_drewN | apply Kd.R_drew)); exact Kd.R_mono (Kd.R_far (p := ⟨gb522, 2, none⟩) (Kd.R_far (p := ⟨gb522, 1, none⟩) (Kd.R_far (p := ⟨gb522, 0, none⟩) (Kd.R_types HO514.out BK522.out (by decide)) (fun _ hk => hk.2) (.slice Ao25 t512.length co25)) (fun _ hk => hk.2) (.slice Ao27 t515.length co27)) (fun _ hk => hk.2) (.slice Ao28 t518.length co28)) (fun _ hk => hk.1.1)⟩, ⟨by (with_reducible repeat (first | apply Kd.R_alloc | apply Kd.R_drewN | apply Kd.R_drew)); exact Kd.R_mono (Kd.R_far (p := ⟨gb522, 2, none⟩) (Kd.R_far (p := ⟨gb522, 1, none⟩) (Kd.R_far (p := ⟨gb522, 0, none⟩) (Kd.R_types HO517.out BK522.out (by decide)) (fun _ hk => hk.2) (.slice Ao25 t512.length co25)) (fun _ hk => hk.2) (.slice Ao27 t515.length co27)) (fun _ hk => hk.2) (.slice Ao28 t518.length co28)) (fun _ hk => hk.1.1)⟩, ⟨by (with_reducible repeat (first | apply Kd.R_alloc | apply Kd.R_drewN | apply Kd.R_drew)); exact Kd.R_mono (Kd.R_far (p := ⟨gb522, 2, none⟩) (Kd.R_far (p := ⟨gb522, 1, none⟩) (Kd.R_far (p := ⟨gb522, 0, none⟩) (Kd.R_types HO520.out BK522.out (by decide)) (fun _ hk => hk.2) (.slice Ao25 t512.length co25)) (fun _ hk => hk.2) (.slice Ao27 t515.length co27)) (fun _ hk => hk.2) (.slice Ao28 t518.length co28)) (fun _ hk => hk.1.1)⟩, ⟨by (with_reducible repeat (first | refine blk_drewN ?_ _ | refine blk_drew ?_ | refine blk_alloc ?_ _)); refine blk_put (cs := #[.slice Ao25 t512.length co25, .slice Ao27 t515.length co27, .slice none 0 0]) ?_ 2 _ rfl; (with_reducible repeat (first | refine blk_drewN ?_ _ | refine blk_drew ?_ | refine blk_alloc ?_ _)); refine blk_put (cs := #[.slice Ao25 t512.length co25, .slice none 0 0, .slice none 0 0]) ?_ 1 _ rfl; (with_reducible repeat (first | refine blk_drewN ?_ _ | refine blk_drew ?_ | refine blk_alloc ?_ _)); refine blk_put (cs := #[.slice none 0 0, .slice none 0 0, .slice none 0 0]) ?_ 0 _ rfl; (with_reducible repeat (first | refine blk_drewN ?_ _ | refine blk_drew ?_ | refine blk_alloc ?_ _)); exact BK522.out⟩, ⟨hs_⟩⟩
      ·rw [if_neg c29] at H
       have c29b0 : (t521 == 0) = false := beq_eq_false_iff_ne.mpr c29
       have c29b1 : (t521 != 0) = true := bne_iff_ne.mpr c29
       (first | rw [c29b0] | rw [c29b1] | (simp only [i64_w, i32_w]; first | rw [c29b0] | rw [c29b1]) | skip)
       have H' := Aside0.mk H
       clear H
       go_wp2
       go_meet
       case rel => exact ⟨_, (true), (fs_), H', ⟨fo_⟩, ⟨by (with_reducible repeat (first | apply Kd.V_alloc | apply Kd.V_drewN | apply Kd.V_drew)); exact Kd.V_mono (Kd.V_far (p := ⟨gb522, 2, none⟩) (Kd.V_far (p := ⟨gb522, 1, none⟩) (Kd.V_far (p := ⟨gb522, 0, none⟩) (Kd.V_mono HO2.out (fun k_ hk => (⟨hk, hk.2⟩ : _ ∧ k_ ≠ gb522))) (fun _ hk => hk.2) (.slice Ao25 t512.length co25)) (fun _ hk => hk.2) (.slice Ao27 t515.length co27)) (fun _ hk => hk.2) (.slice Ao28 t518.length co28)) (fun _ hk => ⟨hk.1.1, hk.1.2⟩)⟩, ⟨by (with_reducible repeat (first | apply Kd.R_alloc | apply Kd.R_drewN | apply Kd.R_drew)); exact Kd.R_mono (Kd.R_far (p := ⟨gb522, 2, none⟩) (Kd.R_far (p := ⟨gb522, 1, none⟩) (Kd.R_far (p := ⟨gb522, 0, none⟩) (Kd.R_types HO514.out BK522.out (by decide)) (fun _ hk => hk.2) (.slice Ao25 t512.length co25)) (fun _ hk => hk.2) (.slice Ao27 t515.length co27)) (fun _ hk => hk.2) (.slice Ao28 t518.length co28)) (fun _ hk => hk.1.1)⟩, ⟨by (with_reducible repeat (first | apply Kd.R_alloc | apply Kd.R_drewN | apply Kd.R_drew)); exact Kd.R_mono (Kd.R_far (p := ⟨gb522, 2, none⟩) (Kd.R_far (p := ⟨gb522, 1, none⟩) (Kd.R_far (p := ⟨gb522, 0, none⟩) (Kd.R_types HO517.out BK522.out (by decide)) (fun _ hk => hk.2) (.slice Ao25 t512.length co25)) (fun _ hk => hk.2) (.slice Ao27 t515.length co27)) (fun _ hk => hk.2) (.slice Ao28 t518.length co28)) (fun _ hk => hk.1.1)⟩, ⟨by (with_reducible repeat (first | apply Kd.R_alloc | apply Kd.R_drewN | apply Kd.R_drew)); exact Kd.R_mono (Kd.R_far (p := ⟨gb522, 2, none⟩) (Kd.R_far (p := ⟨gb522, 1, none⟩) (Kd.R_far (p := ⟨gb522, 0, none⟩) (Kd.R_types HO520.out BK522.out (by decide)) (fun _ hk => hk.2) (.slice Ao25 t512.length co25)) (fun _ hk => hk.2) (.slice Ao27 t515.length co27)) (fun _ hk => hk.2) (.slice Ao28 t518.length co28)) (fun _ hk => hk.1.1)⟩, ⟨by (with_reducible repeat (first | refine blk_drewN ?_ _ | refine blk_drew ?_ | refine blk_alloc ?_ _)); refine blk_put (cs := #[.slice Ao25 t512.length co25, .slice Ao27 t515.length co27, .slice none 0 0]) ?_ 2 _ rfl; (with_reducible repeat (first | refine blk_drewN ?_ _ | refine blk_drew ?_ | refine blk_alloc ?_ _)); refine blk_put (cs := #[.slice Ao25 t512.length co25, .slice none 0 0, .slice none 0 0]) ?_ 1 _ rfl; (with_reducible repeat (first | refine blk_drewN ?_ _ | refine blk_drew ?_ | refine blk_alloc ?_ _)); refine blk_put (cs := #[.slice none 0 0, .slice none 0 0, .slice none 0 0]) ?_ 0 _ rfl; (with_reducible repeat (first | refine blk_drewN ?_ _ | refine blk_drew ?_ | refine blk_alloc ?_ _)); exact BK522.out⟩, ⟨hs_⟩⟩
     case rest =>
      clear HC21
      try clear c1
      try clear c2
      try clear p2
      try clear c3
      try clear c10
      try clear c10b0
      try clear c10b1
      try clear c12
      try clear c14
      try clear c14b0
      try clear c14b1
      try clear c15
      try clear c15b0
      try clear c15b1
      try clear c19
      try clear c19b0
      try clear c19b1
      try clear c27
      try clear c29
      try clear c29b0
      try clear c29b1
      try clear hcz26_0
      try clear hcz26_1
      try clear hcz26_2
      try clear hcz30_0
      try clear hcz30_1
      try clear hcz30_2
      try clear hfz26_0
      try clear hfz26_1
      try clear hfz26_2
      try clear hfz30_0
      try clear hfz30_1
      try clear hfz30_2
      obtain ⟨kq, x52_20, rfl, HA, HJ20, HO_2, HO_523000, HO_523001, HO_523002, BK522, HB⟩ := hcut
      cases kq with
      | zero => exact absurd HA.out (by simp [euclid_Modulo.j0])
      | succ kj20 =>
       have H := HA.out
       clear HA
       simp only [euclid_Modulo.j0] at H
       by_cases c31 : x52_20 = true
       ·subst c31
        have H1 : (some (([] : List Int), false, t521)) = some (r1, r2, r3) := by rw [if_pos rfl] at H; exact H
        clear H
        have H := H1
        clear H1
        simp only [Option.some.injEq, Prod.mk.injEq] at H
        obtain ⟨rfl, rfl, rfl⟩ := H
        go_wp2
        go_ret3
        exact ⟨_, fr_, by first | exact Kd.R_nil _ _ _ _ _ | exact Kd.N_nil _ _ _ _ _ | exact Kd.V_nil _ _ _ _ _ | exact Kd.Q_nil _ _ _ _ _ | exact Kd.S_nil _ _ _ _ _, hs_⟩
       ·replace c31 := Bool.eq_false_iff.mpr c31
        subst c31
        have H1 : (if 0 < (t512.length : Int) then ((field_Inv.f kj20 a0 (rd t512 0)).bind fun bt524 => (if bt524.2 = 0 then ((poly_Scale.f kj20 a0 bt524.1 t518).bind fun bt526 => (if bt526.2 = 0 then ((poly_DivMod.f kj20 a0 bt526.1 l2).bind fun bt530 => (some (bt530.2.1, (bt530.2.2 == 0), bt530.2.2))) else (some (([] : List Int), false, bt526.2)))) else (some (([] : List Int), false, bt524.2)))) else (none)) = some (r1, r2, r3) := by rw [if_neg (show ¬ (false = true) by decide)] at H; exact H
        clear H
        have H := H1
        clear H1
        by_cases c32 : 0 < (t512.length : Int)
        ·rw [if_pos c32] at H
         have c32b0 : decide (0 < (t512.length : Int)) = true := decide_eq_true c32
         have c32b1 : decide (0 < t512.length) = true := decide_eq_true (by omega)
         clear c32
         replace H := Option.bind_eq_some_iff.mp H
         obtain ⟨⟨t524, t525⟩, A330, H⟩ := H
         replace H : (if t525 = 0 then ((poly_Scale.f kj20 a0 t524 t518).bind fun bt526 => (if bt526.2 = 0 then ((poly_DivMod.f kj20 a0 bt526.1 l2).bind fun bt530 => (some (bt530.2.1, (bt530.2.2 == 0), bt530.2.2))) else (some (([] : List Int), false, bt526.2)))) else (some (([] : List Int), false, t525))) = some (r1, r2, r3) := H
         have A33 := Aside0.mk A330
         clear A330
         have HC34 := Aside0.mk H
         clear H
         have hcz35_0 : wc.cell? ⟨gb522, 0, none⟩ = some (.slice Ao25 t512.length co25) := (blk_cell BK522.out 0).trans rfl
         have hcz35_1 : wc.cell? ⟨gb522, 1, none⟩ = some (.slice Ao27 t515.length co27) := (blk_cell BK522.out 1).trans rfl
         have hcz35_2 : wc.cell? ⟨gb522, 2, none⟩ = some (.slice Ao28 t518.length co28) := (blk_cell BK522.out 2).trans rfl
         have hfz35_0 := blk_frozen BK522.out 0
         have hfz35_1 := blk_frozen BK522.out 1
         have hfz35_2 := blk_frozen BK522.out 2
         have p523 : 0 ≤ (0 : Int) := (by omega)
         have q523 : 0 < (t512.length : Int) := of_decide_eq_true (by first | (with_reducible assumption) | assumption)
         obtain ⟨ad523, e523, hx523_0⟩ := Kd.at_int (Kd.R_reads' HO_523000.out).2.2 0 p523 q523
         cases e523
         have qi523 : (0 < t512.length) = True := eq_true (by omega)
         (try rw [show ((0 : Int)).toNat = 0 from rfl] at hx523_0)
         (try rw [Addr.add_zero'] at hx523_0)
         replace p523 := eq_true p523
         replace q523 := eq_true q523
         go_upto_if 64 with (first | ((with_reducible refine gate_callee (f := 35) rfl ?_); refine goesM_ (some 60) Try.func35 #[.int .u8 a0, .int .u64 (rd t512 0)] ?_; (with_reducible refine (field_Inv.calls kj20 a0 (rd t512 0) t524 t525 _ A33.out).mono ?_); rintro e w36 ⟨rfl, hb⟩; refine ⟨_, rfl, ?_⟩; have n0_ := A_ (Kd.V_below (nV_ HO_2) hb); have n1_ := A_ (Kd.R_below (nR_ HO_523000) hb); have n2_ := A_ (Kd.R_below (nR_ HO_523001) hb); have n3_ := A_ (Kd.R_below (nR_ HO_523002) hb); have n4_ := A_ (blk_below (g := gb522) (o := .cells #[.slice (some ad523) t512.length co25, .slice Ao27 t515.length co27, .slice Ao28 t518.length co28] 61 (0, 0)) (nb_ BK522) hb); have n5_ := A_ (below_step hs_ hb); clear HO_2 HO_523000 HO_523001 HO_523002 BK522 HB; have HO_2 := n0_; have HO_523000 := n1_; have HO_523001 := n2_; have HO_523002 := n3_; have BK522 := n4_; have HB := n5_; clear n0_ n1_ n2_ n3_ n4_ n5_; (try clear hb)))
         (try simp only [Act.put, List.setIfInBounds_toArray, List.set_cons_zero, List.set_cons_succ])
         have H := HC34.out
         clear HC34
         by_cases c37 : t525 = 0
         ·rw [if_pos c37] at H
          have c37b0 : (t525 == 0) = true := beq_iff_eq.mpr c37
          have c37b1 : (t525 != 0) = false := bne_eq_false_iff_eq.mpr c37
          clear c37
          (first | rw [c37b0] | rw [c37b1] | (simp only [i64_w, i32_w]; first | rw [c37b0] | rw [c37b1]) | skip)
          replace H := Option.bind_eq_some_iff.mp H
          obtain ⟨⟨t526, t527⟩, A380, H⟩ := H
          replace H : (if t527 = 0 then ((poly_DivMod.f kj20 a0 t526 l2).bind fun bt530 => (some (bt530.2.1, (bt530.2.2 == 0), bt530.2.2))) else (some (([] : List Int), false, t527))) = some (r1, r2, r3) := H
          have A38 := Aside0.mk A380
          clear A380
          have HC39 := Aside0.mk H
          clear H
          have hcz40_0 : w36.cell? ⟨gb522, 0, none⟩ = some (.slice (some ad523) t512.length co25) := (blk_cell BK522.out 0).trans rfl
          have hcz40_1 : w36.cell? ⟨gb522, 1, none⟩ = some (.slice Ao27 t515.length co27) := (blk_cell BK522.out 1).trans rfl
          have hcz40_2 : w36.cell? ⟨gb522, 2, none⟩ = some (.slice Ao28 t518.length co28) := (blk_cell BK522.out 2).trans rfl
          have hfz40_0 := blk_frozen BK522.out 0
          have hfz40_1 := blk_frozen BK522.out 1
          have hfz40_2 := blk_frozen BK522.out 2
          go_upto_if 75 with (first | ((with_reducible refine gate_callee (f := 36) rfl ?_); refine goesM_ (some 71) Try.func36 #[.int .u8 a0, .int .u64 t524, .slice Ao28 t518.length co28] ?_; (with_reducible refine (poly_Scale.calls kj20 a0 t524 _ _ t518 t526 t527 _ ?side1 ?side2 A38.out).mono ?_); (case side1 => repeat (first | exact (Kd.R_reads' HO_523002.out).2.2 | (with_reducible refine Kd.C_alloc ?_ _) | (with_reducible refine Kd.C_drewN ?_ _) | (with_reducible refine Kd.C_drew ?_))); (case side2 => exact (Kd.R_reads' HO_523002.out).2.1); rintro e w41 ⟨v528, rfl, ho0, hb⟩; refine ⟨_, rfl, ?_⟩; have n0_ := A_ (Kd.V_below (nV_ HO_2) hb); have n1_ := A_ (Kd.R_below (nR_ HO_523000) hb); have n2_ := A_ (Kd.R_below (nR_ HO_523001) hb); have n3_ := A_ (Kd.R_below (nR_ HO_523002) hb); have n4_ := A_ (Kd.R_lower (Kd.R_newM (M := fun k_ => (w.heap.size ≤ k_)) (Kd.R_mono (ok' := fun _ => True) ho0 (fun _ _ => trivial)) (below_size hs_) (fun k_ h_ => h_)) (below_size hs_)); have n5_ := A_ (blk_below (g := gb522) (o := .cells #[.slice (some ad523) t512.length co25, .slice Ao27 t515.length co27, .slice Ao28 t518.length co28] 61 (0, 0)) (nb_ BK522) hb); have n6_ := A_ (below_step hs_ hb); clear HO_2 HO_523000 HO_523001 HO_523002 BK522 HB; have HO_2 := n0_; have HO_523000 := n1_; have HO_523001 := n2_; have HO_523002 := n3_; have HO529 := n4_; have BK522 := n5_; have HB := n6_; clear n0_ n1_ n2_ n3_ n4_ n5_ n6_; (try clear hb); (try clear ho0)))
          (try simp only [Act.put, List.setIfInBounds_toArray, List.set_cons_zero, List.set_cons_succ])
          have H := HC39.out
          clear HC39
          by_cases c42 : t527 = 0
          ·rw [if_pos c42] at H
           have c42b0 : (t527 == 0) = true := beq_iff_eq.mpr c42
           have c42b1 : (t527 != 0) = false := bne_eq_false_iff_eq.mpr c42
           clear c42
           (first | rw [c42b0] | rw [c42b1] | (simp only [i64_w, i32_w]; first | rw [c42b0] | rw [c42b1]) | skip)
           replace H := Option.bind_eq_some_iff.mp H
           obtain ⟨⟨t530, t533, t536⟩, A430, H⟩ := H
           replace H : (some (t533, (t536 == 0), t536)) = some (r1, r2, r3) := H
           have A43 := Aside0.mk A430
           clear A430
           simp only [Option.some.injEq, Prod.mk.injEq] at H
           obtain ⟨rfl, rfl, rfl⟩ := H
           obtain ⟨Ao44, co44, eo44⟩ := Kd.R_slice HO529.out
           subst eo44
           go_wp2_with (first | ((with_reducible refine gate_callee (f := 29) rfl ?_); refine goesM_ (some 81) Try.func29 #[.int .u8 a0, .slice Ao44 t526.length co44, .slice A2 l2.length c2] ?_; (with_reducible refine (poly_DivMod.calls kj20 a0 (fun k_ => some k_ = (.slice Ao44 t526.length co44 : Value).ownBlock) _ _ t526 (fun k_ => (((P1_ k_ ∨ P2_ k_) ∨ w.heap.size ≤ k_) ∧ k_ ≠ gb522)) _ _ l2 t530 t533 t536 _ ?side1 ?side2 A43.out).mono ?_); (case side1 => exact Kd.R_V (Kd.R_tight rfl (HO529.out))); (case side2 => exact HO_2.out); rintro e w45 ⟨v531, v534, rfl, ho0, ho1, hb⟩; refine ⟨_, rfl, ?_⟩; have n0_ := A_ (Kd.V_below (nV_ HO_2) hb); have n1_ := A_ (Kd.R_below (nR_ HO_523000) hb); have n2_ := A_ (Kd.R_below (nR_ HO_523001) hb); have n3_ := A_ (Kd.R_below (nR_ HO_523002) hb); have n4_ := A_ (Kd.R_below (nR_ HO529) hb); have n5_ := A_ (Kd.R_lower (Kd.R_newM (M := fun k_ => (w.heap.size ≤ k_)) (Kd.R_mono (ok' := fun k_ => True) ho0 (fun _ hk_ => trivial)) (below_size hs_) (fun k_ h_ => h_)) (below_size hs_)); have n6_ := A_ (Kd.R_lower (Kd.R_newM (M := fun k_ => (w.heap.size ≤ k_)) (Kd.R_mono (ok' := fun k_ => True) ho1 (fun _ hk_ => trivial)) (below_size hs_) (fun k_ h_ => h_)) (below_size hs_)); have n7_ := A_ (blk_below (g := gb522) (o := .cells #[.slice (some ad523) t512.length co25, .slice Ao27 t515.length co27, .slice Ao28 t518.length co28] 61 (0, 0)) (nb_ BK522) hb); have n8_ := A_ (below_step hs_ hb); clear HO_2 HO_523000 HO_523001 HO_523002 HO529 BK522 HB; have HO_2 := n0_; have HO_523000 := n1_; have HO_523001 := n2_; have HO_523002 := n3_; have HO529 := n4_; have HO532 := n5_; have HO535 := n6_; have BK522 := n7_; have HB := n8_; clear n0_ n1_ n2_ n3_ n4_ n5_ n6_ n7_ n8_; (try clear hb); (try clear ho0); (try clear ho1)))
           go_ret3
           exact ⟨_, fr_, by (with_reducible repeat (first | apply Kd.R_alloc | apply Kd.R_drewN | apply Kd.R_drew)); exact Kd.R_mono HO535.out (fun _ hk => hk.1), hs_⟩
          ·rw [if_neg c42] at H
           have c42b0 : (t527 == 0) = false := beq_eq_false_iff_ne.mpr c42
           have c42b1 : (t527 != 0) = true := bne_iff_ne.mpr c42
           (first | rw [c42b0] | rw [c42b1] | (simp only [i64_w, i32_w]; first | rw [c42b0] | rw [c42b1]) | skip)
           simp only [Option.some.injEq, Prod.mk.injEq] at H
           obtain ⟨rfl, rfl, rfl⟩ := H
           go_wp2
           go_ret3
           exact ⟨_, fr_, by first | exact Kd.R_nil _ _ _ _ _ | exact Kd.N_nil _ _ _ _ _ | exact Kd.V_nil _ _ _ _ _ | exact Kd.Q_nil _ _ _ _ _ | exact Kd.S_nil _ _ _ _ _, hs_⟩
         ·rw [if_neg c37] at H
          have c37b0 : (t525 == 0) = false := beq_eq_false_iff_ne.mpr c37
          have c37b1 : (t525 != 0) = true := bne_iff_ne.mpr c37
          (first | rw [c37b0] | rw [c37b1] | (simp only [i64_w, i32_w]; first | rw [c37b0] | rw [c37b1]) | skip)
          simp only [Option.some.injEq, Prod.mk.injEq] at H
          obtain ⟨rfl, rfl, rfl⟩ := H
          go_wp2
          go_ret3
          exact ⟨_, fr_, by first | exact Kd.R_nil _ _ _ _ _ | exact Kd.N_nil _ _ _ _ _ | exact Kd.V_nil _ _ _ _ _ | exact Kd.Q_nil _ _ _ _ _ | exact Kd.S_nil _ _ _ _ _, hs_⟩
        ·rw [if_neg c32] at H
         exact absurd H (by simp)
    ·rw [if_neg c19] at H
     have c19b0 : (t511 == 0) = false := beq_eq_false_iff_ne.mpr c19
     have c19b1 : (t511 != 0) = true := bne_iff_ne.mpr c19
     (first | rw [c19b0] | rw [c19b1] | (simp only [i64_w, i32_w]; first | rw [c19b0] | rw [c19b1]) | skip)
     simp only [Option.some.injEq, Prod.mk.injEq] at H
     obtain ⟨rfl, rfl, rfl⟩ := H
     go_wp2
     go_ret3
     exact ⟨_, fr_, by first | exact Kd.R_nil _ _ _ _ _ | exact Kd.N_nil _ _ _ _ _ | exact Kd.V_nil _ _ _ _ _ | exact Kd.Q_nil _ _ _ _ _ | exact Kd.S_nil _ _ _ _ _, hb_⟩
 ·rw [if_neg c10] at H
  have c10b0 : (t503 == 0) = false := beq_eq_false_iff_ne.mpr c10
  have c10b1 : (t503 != 0) = true := bne_iff_ne.mpr c10
  (first | rw [c10b0] | rw [c10b1] | (simp only [i64_w, i32_w]; first | rw [c10b0] | rw [c10b1]) | skip)
  simp only [Option.some.injEq, Prod.mk.injEq] at H
  obtain ⟨rfl, rfl, rfl⟩ := H
  go_wp2
  go_ret3
  exact ⟨_, fr_, by first | exact Kd.R_nil _ _ _ _ _ | exact Kd.N_nil _ _ _ _ _ | exact Kd.V_nil _ _ _ _ _ | exact Kd.Q_nil _ _ _ _ _ | exact Kd.S_nil _ _ _ _ _, hb_⟩
/-! ### cr3_at: function 45 -/
def cr3_at.f (l0 : List Int) (a1 : Int) : Option (Int) := if a1 < 0 then (some 0) else (if a1 ≥ (l0.length : Int) then (some 0) else (if 0 ≤ a1 then (if a1 < (l0.length : Int) then (some (rd l0 a1)) else (none)) else (none)))
set_option maxHeartbeats 8000000 in
set_option maxRecDepth 100000 in
theorem cr3_at.calls (A0 : Option Addr) (c0 : Nat) (l0 : List Int) (a1 : Int) (r : Int) (w : World) (hr0 : Kd.C (Kd.int .u64) w A0 l0.length l0) (hc0 : l0.length ≤ c0) (h : cr3_at.f l0 a1 = some r) :
  Calls Try.prog 45 #[.slice A0 l0.length c0, .int .i64 a1] w fun e w' => e = .returned (.int .u64 r) ∧ Drawn0 w w' := by
 have HR0 := Aside0.mk hr0
 have HC0 := Aside0.mk hc0
 clear hr0 hc0
 have H : (if a1 < 0 then (some 0) else (if a1 ≥ (l0.length : Int) then (some 0) else (if 0 ≤ a1 then (if a1 < (l0.length : Int) then (some (rd l0 a1)) else (none)) else (none)))) = some r := h
 clear h
 by_cases c3 : a1 < 0
 ·rw [if_pos c3] at H
  have c3b0 : decide (a1 < 0) = true := decide_eq_true c3
  clear c3
  obtain rfl := Option.some.inj H
  go_enter Try.func45, Try.ntmps45
  go_wp2
  go_ret
  exact ⟨fs_, by repeat (first | exact Drawn0.refl _ | apply Drawn0.step)⟩
 ·rw [if_neg c3] at H
  have c3b0 : decide (a1 < 0) = false := decide_eq_false c3
  clear c3
  by_cases c4 : a1 ≥ (l0.length : Int)
  ·rw [if_pos c4] at H
   have c4b0 : decide ((l0.length : Int) ≤ a1) = true := decide_eq_true c4
   clear c4
   obtain rfl := Option.some.inj H
   go_enter Try.func45, Try.ntmps45
   go_wp2
   go_ret
   exact ⟨fs_, by repeat (first | exact Drawn0.refl _ | apply Drawn0.step)⟩
  ·rw [if_neg c4] at H
   have c4b0 : decide ((l0.length : Int) ≤ a1) = false := decide_eq_false c4
   clear c4
   by_cases c5 : 0 ≤ a1
   ·rw [if_pos c5] at H
    have c5b0 : decide (0 ≤ a1) = true := decide_eq_true c5
    clear c5
    by_cases c6 : a1 < (l0.length : Int)
    ·rw [if_pos c6] at H
     have c6b0 : decide (a1 < (l0.length : Int)) = true := decide_eq_true c6
     clear c6
     obtain rfl := Option.some.inj H
     have p537 : 0 ≤ (a1 : Int) := of_decide_eq_true (by first | (with_reducible assumption) | assumption)
     have q537 : a1 < (l0.length : Int) := of_decide_eq_true (by first | (with_reducible assumption) | assumption)
     obtain ⟨ad537, e537, hx537_0⟩ := Kd.at_int HR0.out a1 p537 q537
     cases e537
     replace p537 := eq_true p537
     replace q537 := eq_true q537
     go_enter Try.func45, Try.ntmps45
     go_wp2
     go_ret
     exact ⟨fs_, by repeat (first | exact Drawn0.refl _ | apply Drawn0.step)⟩
    ·rw [if_neg c6] at H
     exact absurd H (by simp)
   ·rw [if_neg c5] at H
    exact absurd H (by simp)
/-! ### cr3_Sub: function 26 -/
def cr3_Sub.l0 : Nat → Int → List Int → List Int → List Int → Int → Option (List Int × Int)
 | 0, _, _, _, _, _ => none
 | k + 1, x0, x1, x2, x9, x10 => if x10 < (mx (x1.length : Int) (x2.length : Int)) then ((cr1_P.f x0).bind fun t542 => ((cr3_at.f x1 x10).bind fun t543 => ((cr3_at.f x2 x10).bind fun t544 => ((cr1_Less.f t542 t543 t544).bind fun t545 => (if x9.length < 17592186044416 then (cr3_Sub.l0 k x0 x1 x2 (x9 ++ [t545]) (wrap64 (x10 + 1))) else (none)))))) else ((cr3_Trim.f k x9).bind fun t539 => (some (t539, 0)))
def cr3_Sub.f (k : Nat) (a0 : Int) (l1 : List Int) (l2 : List Int) : Option (List Int × Int) := (cr3_Bad.f k a0 l1 l2).bind fun t538 => (if t538 = 0 then (cr3_Sub.l0 k a0 l1 l2 ([] : List Int) 0) else (some (([] : List Int), t538)))
theorem cr3_Sub.mono_l : ∀ k, (∀ y0 y1 y2 y3 y4, LeO (cr3_Sub.l0 k y0 y1 y2 y3 y4) (cr3_Sub.l0 (k + 1) y0 y1 y2 y3 y4))
 | 0 => fun _ _ _ _ _ r h => by simp [cr3_Sub.l0] at h
 | k + 1 => by
  have ih0 := cr3_Sub.mono_l k
  ·intro y0 y1 y2 y3 y4
   unfold cr3_Sub.l0
   repeat' first
   | (with_reducible exact ih0 _ _ _ _ _)
   | (with_reducible exact cr3_Bad.mono _ _ _ _)
   | (with_reducible exact cr3_Trim.mono _ _)
   | (with_reducible exact LeO.refl _)
   | (with_reducible exact LeO.none _)
   | (with_reducible refine LeO.ite ?_ ?_)
   | (with_reducible refine LeO.bind ?_ (fun _ => ?_))
   | exact ih0 _ _ _ _ _
   | exact cr3_Bad.mono _ _ _ _
   | exact cr3_Trim.mono _ _
   | exact LeO.none _
   | refine LeO.ite ?_ ?_
   | refine LeO.bind ?_ (fun _ => ?_)
theorem cr3_Sub.mono : ∀ a0 a1 a2 k, LeO (cr3_Sub.f k a0 a1 a2) (cr3_Sub.f (k + 1) a0 a1 a2) := by
 intro a0 a1 a2 k
 have ih0 := cr3_Sub.mono_l k
 unfold cr3_Sub.f
 repeat' first
   | (with_reducible exact ih0 _ _ _ _ _)
   | (with_reducible exact cr3_Bad.mono _ _ _ _)
   | (with_reducible exact cr3_Trim.mono _ _)
   | (with_reducible exact LeO.refl _)
   | (with_reducible exact LeO.none _)
   | (with_reducible refine LeO.ite ?_ ?_)
   | (with_reducible refine LeO.bind ?_ (fun _ => ?_))
   | exact ih0 _ _ _ _ _
   | exact cr3_Bad.mono _ _ _ _
   | exact cr3_Trim.mono _ _
   | exact LeO.none _
   | refine LeO.ite ?_ ?_
   | refine LeO.bind ?_ (fun _ => ?_)
set_option maxHeartbeats 8000000 in
set_option maxRecDepth 100000 in
theorem cr3_Sub.calls (k : Nat) (a0 : Int) (A1 : Option Addr) (c1 : Nat) (l1 : List Int) (A2 : Option Addr) (c2 : Nat) (l2 : List Int) (r1 : List Int) (r2 : Int) (w : World) (hr1 : Kd.C (Kd.int .u64) w A1 l1.length l1) (hc1 : l1.length ≤ c1) (hr2 : Kd.C (Kd.int .u64) w A2 l2.length l2) (hc2 : l2.length ≤ c2) (h : cr3_Sub.f k a0 l1 l2 = some (r1, r2)) :
  Calls Try.prog 26 #[.int .u8 a0, .slice A1 l1.length c1, .slice A2 l2.length c2] w fun e w' => ∃ v0_ : Value, e = .returned (.tuple #[v0_, .int .i64 r2]) ∧ Kd.R (Kd.int .u64) 40 w' w.heap.size (fun _ => True) v0_ r1 ∧ Below w.heap.size w w' := by
 have HR1 := Aside0.mk hr1
 have HC1 := Aside0.mk hc1
 clear hr1 hc1
 have HR2 := Aside0.mk hr2
 have HC2 := Aside0.mk hc2
 clear hr2 hc2
 have HB := A_ (Below.refl w.heap.size w)
 have H : ((cr3_Bad.f k a0 l1 l2).bind fun t538 => (if t538 = 0 then (cr3_Sub.l0 k a0 l1 l2 ([] : List Int) 0) else (some (([] : List Int), t538)))) = some (r1, r2) := h
 clear h
 replace H := Option.bind_eq_some_iff.mp H
 obtain ⟨t538, A40, H⟩ := H
 replace H : (if t538 = 0 then (cr3_Sub.l0 k a0 l1 l2 ([] : List Int) 0) else (some (([] : List Int), t538))) = some (r1, r2) := H
 have A4 := Aside0.mk A40
 clear A40
 have HC5 := Aside0.mk H
 clear H
 go_enter Try.func26, Try.ntmps26
 go_upto_if 16 with (first | ((with_reducible refine gate_callee (f := 16) rfl ?_); refine goesM_ (some 14) Try.func16 #[.int .u8 a0, .slice A1 l1.length c1, .slice A2 l2.length c2] ?_; (with_reducible refine (cr3_Bad.calls k a0 _ _ l1 _ _ l2 t538 _ ?side1 ?side2 ?side3 ?side4 A4.out).mono ?_); (case side1 => exact nC_ HR1.out); (case side2 => exact HC1.out); (case side3 => exact nC_ HR2.out); (case side4 => exact HC2.out); rintro e w' ⟨rfl, ⟨nd, rfl⟩⟩; refine ⟨_, rfl, ?_⟩))
 (try simp only [Act.put, List.setIfInBounds_toArray, List.set_cons_zero, List.set_cons_succ])
 have H := HC5.out
 clear HC5
 by_cases c6 : t538 = 0
 ·rw [if_pos c6] at H
  have c6b0 : (t538 == 0) = true := beq_iff_eq.mpr c6
  have c6b1 : (t538 != 0) = false := bne_eq_false_iff_eq.mpr c6
  clear c6
  (first | rw [c6b0] | rw [c6b1] | (simp only [i64_w, i32_w]; first | rw [c6b0] | rw [c6b1]) | skip)
  have H' := Aside0.mk H
  clear H
  go_wp2
  go_loopg [9, 10] k (fun kq v9 v10 w' => ∃ (x9_1 : List Int) (x10_1 : Int), v10 = .int .i64 x10_1 ∧ Aside0 (cr3_Sub.l0 kq a0 l1 l2 x9_1 x10_1 = some (r1, r2)) ∧ Aside0 (kq ≤ k) ∧ Aside0 (Kd.R (Kd.int .u64) 40 w' w.heap.size (fun _ => True) v9 x9_1) ∧ Aside0 (Below w.heap.size w w'))
  case atStart => exact ⟨(([] : List Int)), (0), (fs_), H', ⟨Nat.le_refl _⟩, ⟨by first | exact Kd.R_nil _ _ _ _ _ | exact Kd.N_nil _ _ _ _ _ | exact Kd.V_nil _ _ _ _ _ | exact Kd.Q_nil _ _ _ _ _ | exact Kd.S_nil _ _ _ _ _⟩, ⟨by repeat (first | (with_reducible first | exact HB.out | apply below_alloc | apply pw_below_drewN | apply below_drew1) | exact HB.out)⟩⟩
  case round =>
   clear H'
   try clear c1
   try clear c2
   try clear p2
   try clear c6
   try clear c6b0
   try clear c6b1
   obtain ⟨x9_1, x10_1, rfl, HA, HK1, HO_9, HB⟩ := hrel
   cases gk with
   | zero => exact absurd HA.out (by simp [cr3_Sub.l0])
   | succ k1 =>
    have H := HA.out
    clear HA
    simp only [cr3_Sub.l0] at H
    obtain ⟨ji7, hji7⟩ : ∃ j_ : Int, (mx (l1.length : Int) (l2.length : Int)) = j_ := ⟨_, rfl⟩
    replace H : (if x10_1 < (ji7) then ((cr1_P.f a0).bind fun t542 => ((cr3_at.f l1 x10_1).bind fun t543 => ((cr3_at.f l2 x10_1).bind fun t544 => ((cr1_Less.f t542 t543 t544).bind fun t545 => (if x9_1.length < 17592186044416 then (cr3_Sub.l0 k1 a0 l1 l2 (x9_1 ++ [t545]) (wrap64 (x10_1 + 1))) else (none)))))) else ((cr3_Trim.f k1 x9_1).bind fun t539 => (some (t539, 0)))) = some (r1, r2) := by first | (rw [hji7] at H; exact H) | (simp only [hji7] at H ⊢; exact H)
    (try (have hji7l : 0 ≤ ji7 := by (rw [← hji7]; unfold mx; (repeat' split) <;> omega)))
    (try (have hji7m : 0 ≤ ji7 := by omega))
    have hji7N : (if l1.length < l2.length then (l2.length : Int) else (l1.length : Int)) = ji7 := by have h_ := hji7; unfold mx at h_; simp only [Int.ofNat_lt] at h_; exact h_
    have hji7_ : (if (l1.length : Int) < (l2.length : Int) then (l2.length : Int) else (l1.length : Int)) = ji7 := hji7
    by_cases c8 : x10_1 < (ji7)
    ·rw [if_pos c8] at H
     have c8b0 : decide (x10_1 < (ji7)) = true := decide_eq_true c8
     clear c8
     replace H := Option.bind_eq_some_iff.mp H
     obtain ⟨t542, A90, H⟩ := H
     replace H : ((cr3_at.f l1 x10_1).bind fun t543 => ((cr3_at.f l2 x10_1).bind fun t544 => ((cr1_Less.f t542 t543 t544).bind fun t545 => (if x9_1.length < 17592186044416 then (cr3_Sub.l0 k1 a0 l1 l2 (x9_1 ++ [t545]) (wrap64 (x10_1 + 1))) else (none))))) = some (r1, r2) := H
     have A9 := Aside0.mk A90
     clear A90
     replace H := Option.bind_eq_some_iff.mp H
     obtain ⟨t543, A100, H⟩ := H
     replace H : ((cr3_at.f l2 x10_1).bind fun t544 => ((cr1_Less.f t542 t543 t544).bind fun t545 => (if x9_1.length < 17592186044416 then (cr3_Sub.l0 k1 a0 l1 l2 (x9_1 ++ [t545]) (wrap64 (x10_1 + 1))) else (none)))) = some (r1, r2) := H
     have A10 := Aside0.mk A100
     clear A100
     replace H := Option.bind_eq_some_iff.mp H
     obtain ⟨t544, A110, H⟩ := H
     replace H : ((cr1_Less.f t542 t543 t544).bind fun t545 => (if x9_1.length < 17592186044416 then (cr3_Sub.l0 k1 a0 l1 l2 (x9_1 ++ [t545]) (wrap64 (x10_1 + 1))) else (none))) = some (r1, r2) := H
     have A11 := Aside0.mk A110
     clear A110
     replace H := Option.bind_eq_some_iff.mp H
     obtain ⟨t545, A120, H⟩ := H
     replace H : (if x9_1.length < 17592186044416 then (cr3_Sub.l0 k1 a0 l1 l2 (x9_1 ++ [t545]) (wrap64 (x10_1 + 1))) else (none)) = some (r1, r2) := H
     have A12 := Aside0.mk A120
     clear A120
     by_cases c13 : x9_1.length < 17592186044416
     ·rw [if_pos c13] at H
      have LMc13 := Aside0.mk c13
      clear c13
      obtain ⟨y546, hy546⟩ : ∃ y_ : List Int, y_ = (x9_1 ++ [t545]) := ⟨_, rfl⟩
      replace H : (cr3_Sub.l0 k1 a0 l1 l2 y546 (wrap64 (x10_1 + 1))) = some (r1, r2) := by first | (rw [hy546]; with_reducible exact H) | (have H2_ := (Option.bind_some _ _).symm.trans H; rw [hy546]; with_reducible exact H2_) | (have H2_ := (Option.bind_some _ _).symm.trans H; with_reducible exact H2_) | with_reducible exact H | (rw [hy546]; exact H) | exact H
      have Ny546 := Aside0.mk hy546
      clear hy546
      have H' := Aside0.mk H
      clear H
      go_wp2_with (first | ((with_reducible refine gate_callee (f := 39) rfl ?_); refine goesM_ (some 29) Try.func39 #[.int .u8 a0] ?_; (with_reducible refine (cr1_P.calls a0 t542 _ A9.out).mono ?_); rintro e w' ⟨rfl, ⟨nd, rfl⟩⟩; refine ⟨_, rfl, ?_⟩) | ((with_reducible refine gate_callee (f := 45) rfl ?_); refine goesM_ (some 32) Try.func45 #[.slice A1 l1.length c1, .int .i64 x10_1] ?_; (with_reducible refine (cr3_at.calls _ _ l1 x10_1 t543 _ ?side1 ?side2 A10.out).mono ?_); (case side1 => repeat (first | exact (Kd.C_below HR1.out hb_) | (with_reducible refine Kd.C_alloc ?_ _) | (with_reducible refine Kd.C_drewN ?_ _) | (with_reducible refine Kd.C_drew ?_))); (case side2 => exact HC1.out); rintro e w' ⟨rfl, ⟨nd, rfl⟩⟩; refine ⟨_, rfl, ?_⟩) | ((with_reducible refine gate_callee (f := 45) rfl ?_); refine goesM_ (some 35) Try.func45 #[.slice A2 l2.length c2, .int .i64 x10_1] ?_; (with_reducible refine (cr3_at.calls _ _ l2 x10_1 t544 _ ?side1 ?side2 A11.out).mono ?_); (case side1 => repeat (first | exact (Kd.C_below HR2.out hb_) | (with_reducible refine Kd.C_alloc ?_ _) | (with_reducible refine Kd.C_drewN ?_ _) | (with_reducible refine Kd.C_drew ?_))); (case side2 => exact HC2.out); rintro e w' ⟨rfl, ⟨nd, rfl⟩⟩; refine ⟨_, rfl, ?_⟩) | ((with_reducible refine gate_callee (f := 43) rfl ?_); refine goesM_ (some 36) Try.func43 #[.int .u64 t542, .int .u64 t543, .int .u64 t544] ?_; (with_reducible refine (cr1_Less.calls t542 t543 t544 t545 _ A12.out).mono ?_); rintro e w' ⟨rfl, ⟨nd, rfl⟩⟩; refine ⟨_, rfl, ?_⟩) | ((with_reducible refine gate_builtin (b := .append) (xs := #[.tmp 27, .tmp 37]) rfl ?_); at_builtin; refine Kd.R_append (Kd.int .u64) (w0 := w) w.heap.size rfl (.tmp 27) (.tmp 37) 22 40 (.int .u64 0) 8 rfl Try.underlying22 info40 rfl (by decide) (by omega) u9 x9_1 t545 [.int .u64 t545] (fun _ => True) (fun _ => False) rfl rfl ?aP (fun _ hk => hk.elim) ?aF ?aO ?aB ?aS ?aL ?_; (case aP => exact rfl); (case aB => exact hb_); (case aF => exact (fun _ _ => trivial)); (case aO => exact (nR_ HO_9)); (case aS => exact (below_size hb_)); (case aL => have := LMc13.out; omega); intro v547 w14 ho hb hg hat; rw [← Ny546.out] at ho; have n0_ := A_ (hb); have n1_ := A_ (ho); clear HB HO_9; have HB := n0_; have HO548 := n1_; clear n0_ n1_; clear ho hb hg hat))
      go_roundg k1
      case measure => have := HK1.out; omega
      case rel => exact ⟨(y546), (wrap64 (x10_1 + 1)), (fs_), H', ⟨by have := HK1.out; omega⟩, ⟨mR_ HO548.out⟩, ⟨by repeat (first | (with_reducible first | exact HB.out | apply below_alloc | apply pw_below_drewN | apply below_drew1) | exact HB.out)⟩⟩
     ·rw [if_neg c13] at H
      exact absurd H (by simp)
    ·rw [if_neg c8] at H
     have c8b0 : decide (x10_1 < (ji7)) = false := decide_eq_false c8
     clear c8
     replace H := Option.bind_eq_some_iff.mp H
     obtain ⟨t539, A150, H⟩ := H
     replace H : (some (t539, 0)) = some (r1, r2) := H
     have A15 := Aside0.mk A150
     clear A150
     simp only [Option.some.injEq, Prod.mk.injEq] at H
     obtain ⟨rfl, rfl⟩ := H
     obtain ⟨Ao16, co16, eo16⟩ := Kd.R_slice HO_9.out
     subst eo16
     go_wp2_with (first | ((with_reducible refine gate_callee (f := 20) rfl ?_); refine goesM_ (some 40) Try.func20 #[.slice Ao16 x9_1.length co16] ?_; (with_reducible refine (cr3_Trim.calls k1 _ _ x9_1 t539 _ ?side1 ?side2 A15.out).mono ?_); (case side1 => repeat (first | exact (Kd.R_reads' HO_9.out).2.2 | (with_reducible refine Kd.C_alloc ?_ _) | (with_reducible refine Kd.C_drewN ?_ _) | (with_reducible refine Kd.C_drew ?_))); (case side2 => exact (Kd.R_reads' HO_9.out).2.1); rintro e w17 ⟨v540, rfl, ho0, hb⟩; refine ⟨_, rfl, ?_⟩; have n0_ := A_ (Kd.R_elder' (nR_ HO_9) (Kd.R_base ho0) hb); have n1_ := A_ (Kd.R_lower (Kd.R_new' ho0 (Kd.R_lt (nR_ HO_9))) (below_size hb_)); have n2_ := A_ (below_step hb_ hb); clear HO_9 HB; have HO_9 := n0_; have HO541 := n1_; have HB := n2_; clear n0_ n1_ n2_; (try clear hb); (try clear ho0)))
     go_ret2
     exact ⟨_, by first | rfl | (simp [errW_none, errW_some] <;> rfl) | (simp only [← hji7]; first | rfl | (simp [errW_none, errW_some] <;> rfl)) | (simp [*, errW_none, errW_some] <;> rfl), by (with_reducible repeat (first | apply Kd.R_alloc | apply Kd.R_drewN | apply Kd.R_drew)); exact Kd.R_mono HO541.out (fun _ hk => trivial), hb_⟩
 ·rw [if_neg c6] at H
  have c6b0 : (t538 == 0) = false := beq_eq_false_iff_ne.mpr c6
  have c6b1 : (t538 != 0) = true := bne_iff_ne.mpr c6
  (first | rw [c6b0] | rw [c6b1] | (simp only [i64_w, i32_w]; first | rw [c6b0] | rw [c6b1]) | skip)
  simp only [Option.some.injEq, Prod.mk.injEq] at H
  obtain ⟨rfl, rfl⟩ := H
  go_wp2
  go_ret2
  exact ⟨_, fr_, by first | exact Kd.R_nil _ _ _ _ _ | exact Kd.N_nil _ _ _ _ _ | exact Kd.V_nil _ _ _ _ _ | exact Kd.Q_nil _ _ _ _ _ | exact Kd.S_nil _ _ _ _ _, hb_⟩
end Go.Proofs.Yteofgcmgncaojaa.PEuclidDivides
