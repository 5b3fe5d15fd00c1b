/- The Go functions as Lean functions, each with the proof that its call comes to just that; written by a program of this session, by the words of the print. -/
import Derived.Test.YteofgcmgncaojaaPEuclidInvertsx0
import Derived.Test.YteofgcmgncaojaaPEuclidInvertsx1
import Derived.Test.YteofgcmgncaojaaPEuclidInvertsx3
import Derived.Test.YteofgcmgncaojaaPEuclidInvertsx4
import Derived.Test.YteofgcmgncaojaaPEuclidInvertsx5
import Derived.Test.YteofgcmgncaojaaPEuclidInvertsx8
namespace Go.Proofs.Yteofgcmgncaojaa.PEuclidInverts
open Go.RowKit Go.Proofs.YteofgcmgncaojaaW.PrintWords Go.Proofs.YteofgcmgncaojaaW.PrintLast Go.Proofs.YteofgcmgncaojaaW.PrintMore
attribute [local go_sem] max2_int min2_int max_two min_two max_three min_three max_four min_four   -- for this text's walks alone
set_option linter.unusedVariables false
set_option linter.unusedSimpArgs false
/-! ### euclid_Modulo: function 12 -/
def euclid_Modulo.j0 : Nat → Int → List Int → Int → Bool → List Int → List Int → List Int → Option (List Int × Bool × Int)
 | 0, _, _, _, _, _, _, _ => none
 | k + 1, x0, x2, x8, x52, x412000, x412001, x412002 => if x52 = true then (some (([] : List Int), false, x8)) else (if 0 < (x412000.length : Int) then ((field_Inv.f k x0 (rd x412000 0)).bind fun bt413 => (if bt413.2 = 0 then ((poly_Scale.f k x0 bt413.1 x412002).bind fun bt415 => (if bt415.2 = 0 then ((poly_DivMod.f k x0 bt415.1 x2).bind fun bt419 => (some (bt419.2.1, (bt419.2.2 == 0), bt419.2.2))) else (some (([] : List Int), false, bt415.2)))) else (some (([] : List Int), false, bt413.2)))) else (none))
def euclid_Modulo.f (k : Nat) (a0 : Int) (l1 : List Int) (l2 : List Int) : Option (List Int × Bool × Int) := (euclid_may.f k a0 (([l1, l2] : List (List Int)))).bind fun t392 => (if t392 = 0 then ((poly_Degree.f k l2).bind fun t393 => (if t393 = (-1) then (some (([] : List Int), false, 5)) else (if t393 = 0 then (some (([] : List Int), true, 0)) else ((poly_DivMod.f k a0 l1 l2).bind fun bt394 => (if bt394.2.2 = 0 then ((euclid_partial.f k a0 l2 bt394.2.1 1).bind fun bt401 => (if bt401.2.2.2 = 0 then (euclid_Modulo.j0 k a0 l2 bt401.2.2.2 ((bt401.1.length : Int) == 0) bt401.1 bt401.2.1 bt401.2.2.1) else (euclid_Modulo.j0 k a0 l2 bt401.2.2.2 true bt401.1 bt401.2.1 bt401.2.2.1))) else (some (([] : List Int), false, bt394.2.2))))))) else (some (([] : List Int), false, t392)))
theorem euclid_Modulo.mono_l : ∀ k, (∀ y0 y1 y2 y3 y4 y5 y6, LeO (euclid_Modulo.j0 k y0 y1 y2 y3 y4 y5 y6) (euclid_Modulo.j0 (k + 1) y0 y1 y2 y3 y4 y5 y6))
 | 0 => fun _ _ _ _ _ _ _ r h => by simp [euclid_Modulo.j0] at h
 | k + 1 => by
  have ih0 := euclid_Modulo.mono_l k
  ·intro y0 y1 y2 y3 y4 y5 y6
   unfold euclid_Modulo.j0
   repeat' first
   | (with_reducible exact ih0 _ _ _ _ _ _ _)
   | (with_reducible exact euclid_may.mono _ _ _)
   | (with_reducible exact euclid_partial.mono _ _ _ _ _)
   | (with_reducible exact field_Inv.mono _ _ _)
   | (with_reducible exact poly_Degree.mono _ _)
   | (with_reducible exact poly_DivMod.mono _ _ _ _)
   | (with_reducible exact poly_Scale.mono _ _ _ _)
   | (with_reducible exact LeO.refl _)
   | (with_reducible exact LeO.none _)
   | (with_reducible refine LeO.ite ?_ ?_)
   | (with_reducible refine LeO.bind ?_ (fun _ => ?_))
   | exact ih0 _ _ _ _ _ _ _
   | exact euclid_may.mono _ _ _
   | exact euclid_partial.mono _ _ _ _ _
   | exact field_Inv.mono _ _ _
   | exact poly_Degree.mono _ _
   | exact poly_DivMod.mono _ _ _ _
   | exact poly_Scale.mono _ _ _ _
   | exact LeO.none _
   | refine LeO.ite ?_ ?_
   | refine LeO.bind ?_ (fun _ => ?_)
theorem euclid_Modulo.mono : ∀ a0 a1 a2 k, LeO (euclid_Modulo.f k a0 a1 a2) (euclid_Modulo.f (k + 1) a0 a1 a2) := by
 intro a0 a1 a2 k
 have ih0 := euclid_Modulo.mono_l k
 unfold euclid_Modulo.f
 repeat' first
   | (with_reducible exact ih0 _ _ _ _ _ _ _)
   | (with_reducible exact euclid_may.mono _ _ _)
   | (with_reducible exact euclid_partial.mono _ _ _ _ _)
   | (with_reducible exact field_Inv.mono _ _ _)
   | (with_reducible exact poly_Degree.mono _ _)
   | (with_reducible exact poly_DivMod.mono _ _ _ _)
   | (with_reducible exact poly_Scale.mono _ _ _ _)
   | (with_reducible exact LeO.refl _)
   | (with_reducible exact LeO.none _)
   | (with_reducible refine LeO.ite ?_ ?_)
   | (with_reducible refine LeO.bind ?_ (fun _ => ?_))
   | exact ih0 _ _ _ _ _ _ _
   | exact euclid_may.mono _ _ _
   | exact euclid_partial.mono _ _ _ _ _
   | exact field_Inv.mono _ _ _
   | exact poly_Degree.mono _ _
   | exact poly_DivMod.mono _ _ _ _
   | exact poly_Scale.mono _ _ _ _
   | exact LeO.none _
   | refine LeO.ite ?_ ?_
   | refine LeO.bind ?_ (fun _ => ?_)
set_option maxHeartbeats 8000000 in
set_option maxRecDepth 100000 in
theorem euclid_Modulo.calls (k : Nat) (a0 : Int) (P1_ : Nat → Prop) (A1 : Option Addr) (c1 : Nat) (l1 : List Int) (P2_ : Nat → Prop) (A2 : Option Addr) (c2 : Nat) (l2 : List Int) (r1 : List Int) (r2 : Bool) (r3 : Int) (w : World) (hs1 : Kd.V (Kd.int .u64) 40 w w.heap.size (fun k_ => P1_ k_) (.slice A1 l1.length c1) l1) (hs2 : Kd.V (Kd.int .u64) 40 w w.heap.size (fun k_ => P2_ k_) (.slice A2 l2.length c2) l2) (h : euclid_Modulo.f k a0 l1 l2 = some (r1, r2, r3)) :
  Calls Try.prog 12 #[.int .u8 a0, .slice A1 l1.length c1, .slice A2 l2.length c2] w fun e w' => ∃ v0_ : Value, e = .returned (.tuple #[v0_, .bool r2, .int .i64 r3]) ∧ Kd.R (Kd.int .u64) 40 w' w.heap.size (fun k_ => (w.heap.size ≤ k_)) v0_ r1 ∧ Below w.heap.size w w' := by
 have hu61 := Try.underlying61
 have HO1 := A_ (show Kd.V (Kd.int .u64) 40 w w.heap.size (fun k_ => ((P1_ k_ ∨ P2_ k_) ∨ w.heap.size ≤ k_)) (.slice A1 l1.length c1) l1 from Kd.V_mono hs1 (fun k_ hk => .inl (.inl hk)))
 have HO2 := A_ (show Kd.V (Kd.int .u64) 40 w w.heap.size (fun k_ => ((P1_ k_ ∨ P2_ k_) ∨ w.heap.size ≤ k_)) (.slice A2 l2.length c2) l2 from Kd.V_mono hs2 (fun k_ hk => .inl (.inr hk)))
 have HB := A_ (Below.refl w.heap.size w)
 have H : ((euclid_may.f k a0 (([l1, l2] : List (List Int)))).bind fun t392 => (if t392 = 0 then ((poly_Degree.f k l2).bind fun t393 => (if t393 = (-1) then (some (([] : List Int), false, 5)) else (if t393 = 0 then (some (([] : List Int), true, 0)) else ((poly_DivMod.f k a0 l1 l2).bind fun bt394 => (if bt394.2.2 = 0 then ((euclid_partial.f k a0 l2 bt394.2.1 1).bind fun bt401 => (if bt401.2.2.2 = 0 then (euclid_Modulo.j0 k a0 l2 bt401.2.2.2 ((bt401.1.length : Int) == 0) bt401.1 bt401.2.1 bt401.2.2.1) else (euclid_Modulo.j0 k a0 l2 bt401.2.2.2 true bt401.1 bt401.2.1 bt401.2.2.1))) else (some (([] : List Int), false, bt394.2.2))))))) else (some (([] : List Int), false, t392)))) = some (r1, r2, r3) := h
 clear h
 obtain ⟨y389, hy389⟩ : ∃ y_ : List (List Int), y_ = (([l1, l2] : List (List Int))) := ⟨_, rfl⟩
 replace H : ((euclid_may.f k a0 y389).bind fun t392 => (if t392 = 0 then ((poly_Degree.f k l2).bind fun t393 => (if t393 = (-1) then (some (([] : List Int), false, 5)) else (if t393 = 0 then (some (([] : List Int), true, 0)) else ((poly_DivMod.f k a0 l1 l2).bind fun bt394 => (if bt394.2.2 = 0 then ((euclid_partial.f k a0 l2 bt394.2.1 1).bind fun bt401 => (if bt401.2.2.2 = 0 then (euclid_Modulo.j0 k a0 l2 bt401.2.2.2 ((bt401.1.length : Int) == 0) bt401.1 bt401.2.1 bt401.2.2.1) else (euclid_Modulo.j0 k a0 l2 bt401.2.2.2 true bt401.1 bt401.2.1 bt401.2.2.1))) else (some (([] : List Int), false, bt394.2.2))))))) else (some (([] : List Int), false, t392)))) = some (r1, r2, r3) := by first | (rw [hy389]; with_reducible exact H) | (have H2_ := (Option.bind_some _ _).symm.trans H; rw [hy389]; with_reducible exact H2_) | (have H2_ := (Option.bind_some _ _).symm.trans H; with_reducible exact H2_) | with_reducible exact H | (rw [hy389]; exact H) | exact H
 have Ny389 := Aside0.mk hy389
 clear hy389
 replace H := Option.bind_eq_some_iff.mp H
 obtain ⟨t392, A40, H⟩ := H
 (try dsimp only at H)
 have A4 := Aside0.mk A40
 clear A40
 have HC5 := Aside0.mk H
 clear H
 go_enter Try.func12, Try.ntmps12
 go_upto_if 19 with (first | ((with_reducible refine gate_dst (N := 16) rfl ?_); (try (refine gate_guard (by rfl) ?_; dsimp only)); refine Kd.N_lit (Kd.slice 40 (Kd.int .u64)) _ 22 ?hg (N' := 16) ?hd (xs := ([l1, l2] : List (List Int))) (inner := [.slice A1 l1.length c1, .slice A2 l2.length c2]) (ok := (fun k_ => ((P1_ k_ ∨ P2_ k_) ∨ w.heap.size ≤ k_))) (okp := (fun k_ => ((P1_ k_ ∨ P2_ k_) ∨ w.heap.size ≤ k_))) ?hr ?hp (fun _ hk => hk) ((show ∀ k_, w.heap.size ≤ k_ → (fun k_ => ((P1_ k_ ∨ P2_ k_) ∨ w.heap.size ≤ k_)) k_ from fun k_ hk => (.inr (Nat.le_trans (below_size hb_) hk))) _ (Nat.le_refl _)) (Below.refl _ _) (Nat.le_refl _) (by simp) ?_; (case hd => rfl); (case hg => rfl); (case hr => first | (go_simp; done) | (go_simp; rfl)); (case hp => exact (Reps.one (show Kd.FK (Kd.slice 40 (Kd.int .u64)) _ _ l1 [.slice A1 l1.length c1] from (Kd.FK_slice_mk (Kd.V_reads' (Kd.V_mono (ok' := (fun k_ => ((P1_ k_ ∨ P2_ k_) ∨ w.heap.size ≤ k_))) (HO1.out) (fun k_ hk => hk))).2.1 (Kd.V_F (Kd.V_mono (ok' := (fun k_ => ((P1_ k_ ∨ P2_ k_) ∨ w.heap.size ≤ k_))) (HO1.out) (fun k_ hk => hk))))) (Reps.one (show Kd.FK (Kd.slice 40 (Kd.int .u64)) _ _ l2 [.slice A2 l2.length c2] from (Kd.FK_slice_mk (Kd.V_reads' (Kd.V_mono (ok' := (fun k_ => ((P1_ k_ ∨ P2_ k_) ∨ w.heap.size ≤ k_))) (HO2.out) (fun k_ hk => hk))).2.1 (Kd.V_F (Kd.V_mono (ok' := (fun k_ => ((P1_ k_ ∨ P2_ k_) ∨ w.heap.size ≤ k_))) (HO2.out) (fun k_ hk => hk))))) (Reps.none _ _)))); intro v390 w6 ho7 hb hg_ hnew_; clear hg_ hnew_; (first | rw [← Ny389.out] at ho7 | (simp only [Int.reduceToNat] at ho7; rw [← Ny389.out] at ho7)); have n0_ := A_ (Kd.V_below (nV_ HO1) hb); have n1_ := A_ (Kd.V_below (nV_ HO2) hb); have n2_ := A_ (Kd.N_lower ho7 (below_size hb_)); have n3_ := A_ (below_step hb_ hb); clear HO1 HO2 HB; have HO1 := n0_; have HO2 := n1_; have HO391 := n2_; have HB := n3_; clear n0_ n1_ n2_ n3_; clear hb ho7; obtain ⟨Ao8, co8, eo8⟩ := Kd.N_slice HO391.out; subst eo8) | ((with_reducible refine gate_callee (f := 27) rfl ?_); refine goesM_ (some 17) Try.func27 #[.int .u8 a0, .slice Ao8 y389.length co8] ?_; (with_reducible refine (euclid_may.calls k a0 _ _ y389 t392 _ ?side1 ?side2 A4.out).mono ?_); (case side1 => repeat (first | exact (Kd.N_reads' HO391.out).2.2 | (with_reducible refine Kd.C_alloc ?_ _) | (with_reducible refine Kd.C_drewN ?_ _) | (with_reducible refine Kd.C_drew ?_))); (case side2 => exact (Kd.N_reads' HO391.out).2.1); rintro e w9 ⟨rfl, hb⟩; refine ⟨_, rfl, ?_⟩; have n0_ := A_ (Kd.V_below (nV_ HO1) hb); have n1_ := A_ (Kd.V_below (nV_ HO2) hb); have n2_ := A_ (Kd.N_below (nN_ HO391) hb); have n3_ := A_ (below_step hb_ hb); clear HO1 HO2 HO391 HB; have HO1 := n0_; have HO2 := n1_; have HO391 := n2_; have HB := n3_; clear n0_ n1_ n2_ n3_; (try clear hb)))
 (try simp only [Act.put, List.setIfInBounds_toArray, List.set_cons_zero, List.set_cons_succ])
 have H := HC5.out
 clear HC5
 by_cases c10 : t392 = 0
 ·rw [if_pos c10] at H
  have c10b0 : (t392 == 0) = true := beq_iff_eq.mpr c10
  have c10b1 : (t392 != 0) = false := bne_eq_false_iff_eq.mpr c10
  clear c10
  (first | rw [c10b0] | rw [c10b1] | (simp only [i64_w, i32_w]; first | rw [c10b0] | rw [c10b1]) | skip)
  replace H := Option.bind_eq_some_iff.mp H
  obtain ⟨t393, A110, H⟩ := H
  (try dsimp only at H)
  have A11 := Aside0.mk A110
  clear A110
  have HC12 := Aside0.mk H
  clear H
  go_upto_if 23 with (first | ((with_reducible refine gate_callee (f := 33) rfl ?_); refine goesM_ (some 22) Try.func33 #[.slice A2 l2.length c2] ?_; (with_reducible refine (poly_Degree.calls k _ _ l2 t393 _ ?side1 ?side2 A11.out).mono ?_); (case side1 => repeat (first | exact (Kd.V_reads' HO2.out).2.2 | (with_reducible refine Kd.C_alloc ?_ _) | (with_reducible refine Kd.C_drewN ?_ _) | (with_reducible refine Kd.C_drew ?_))); (case side2 => exact (Kd.V_reads' HO2.out).2.1); rintro e w13 ⟨rfl, hb⟩; refine ⟨_, rfl, ?_⟩; have n0_ := A_ (Kd.V_below (nV_ HO1) hb); have n1_ := A_ (Kd.V_below (nV_ HO2) hb); have n2_ := A_ (Kd.N_below (nN_ HO391) hb); have n3_ := A_ (below_step hb_ hb); clear HO1 HO2 HO391 HB; have HO1 := n0_; have HO2 := n1_; have HO391 := n2_; have HB := n3_; clear n0_ n1_ n2_ n3_; (try clear hb)))
  (try simp only [Act.put, List.setIfInBounds_toArray, List.set_cons_zero, List.set_cons_succ])
  have H := HC12.out
  clear HC12
  by_cases c14 : t393 = (-1)
  ·rw [if_pos c14] at H
   have c14b0 : (t393 == (-1)) = true := beq_iff_eq.mpr c14
   have c14b1 : (t393 != (-1)) = false := bne_eq_false_iff_eq.mpr c14
   clear c14
   (first | rw [c14b0] | rw [c14b1] | (simp only [i64_w, i32_w]; first | rw [c14b0] | rw [c14b1]) | skip)
   simp only [Option.some.injEq, Prod.mk.injEq] at H
   obtain ⟨rfl, rfl, rfl⟩ := H
   go_wp2
   go_ret3
   exact ⟨_, fr_, by first | exact Kd.R_nil _ _ _ _ _ | exact Kd.N_nil _ _ _ _ _ | exact Kd.V_nil _ _ _ _ _ | exact Kd.Q_nil _ _ _ _ _ | exact Kd.S_nil _ _ _ _ _, hb_⟩
  ·rw [if_neg c14] at H
   have c14b0 : (t393 == (-1)) = false := beq_eq_false_iff_ne.mpr c14
   have c14b1 : (t393 != (-1)) = true := bne_iff_ne.mpr c14
   (first | rw [c14b0] | rw [c14b1] | (simp only [i64_w, i32_w]; first | rw [c14b0] | rw [c14b1]) | skip)
   by_cases c15 : t393 = 0
   ·rw [if_pos c15] at H
    have c15b0 : (t393 == 0) = true := beq_iff_eq.mpr c15
    have c15b1 : (t393 != 0) = false := bne_eq_false_iff_eq.mpr c15
    clear c15
    simp only [Option.some.injEq, Prod.mk.injEq] at H
    obtain ⟨rfl, rfl, rfl⟩ := H
    go_wp2
    go_ret3
    exact ⟨_, fr_, by first | exact Kd.R_nil _ _ _ _ _ | exact Kd.N_nil _ _ _ _ _ | exact Kd.V_nil _ _ _ _ _ | exact Kd.Q_nil _ _ _ _ _ | exact Kd.S_nil _ _ _ _ _, hb_⟩
   ·rw [if_neg c15] at H
    have c15b0 : (t393 == 0) = false := beq_eq_false_iff_ne.mpr c15
    have c15b1 : (t393 != 0) = true := bne_iff_ne.mpr c15
    replace H := Option.bind_eq_some_iff.mp H
    obtain ⟨⟨t394, t397, t400⟩, A160, H⟩ := H
    (try dsimp only at H)
    have A16 := Aside0.mk A160
    clear A160
    have HC17 := Aside0.mk H
    clear H
    go_upto_if 36 with (first | ((with_reducible refine gate_callee (f := 29) rfl ?_); refine goesM_ (some 31) Try.func29 #[.int .u8 a0, .slice A1 l1.length c1, .slice A2 l2.length c2] ?_; (with_reducible refine (poly_DivMod.calls k a0 (fun k_ => ((P1_ k_ ∨ P2_ k_) ∨ w.heap.size ≤ k_)) _ _ l1 (fun k_ => ((P1_ k_ ∨ P2_ k_) ∨ w.heap.size ≤ k_)) _ _ l2 t394 t397 t400 _ ?side1 ?side2 A16.out).mono ?_); (case side1 => exact HO1.out); (case side2 => exact HO2.out); rintro e w18 ⟨v395, v398, rfl, ho0, ho1, hb⟩; refine ⟨_, rfl, ?_⟩; have n0_ := A_ (Kd.V_below (nV_ HO1) hb); have n1_ := A_ (Kd.V_below (nV_ HO2) hb); have n2_ := A_ (Kd.N_below (nN_ HO391) hb); have n3_ := A_ (Kd.R_lower (Kd.R_newM (M := fun k_ => (w.heap.size ≤ k_)) (Kd.R_mono (ok' := fun k_ => True) ho0 (fun _ hk_ => trivial)) (below_size hb_) (fun k_ h_ => h_)) (below_size hb_)); have n4_ := A_ (Kd.R_lower (Kd.R_newM (M := fun k_ => (w.heap.size ≤ k_)) (Kd.R_mono (ok' := fun k_ => True) ho1 (fun _ hk_ => trivial)) (below_size hb_) (fun k_ h_ => h_)) (below_size hb_)); have n5_ := A_ (below_step hb_ hb); clear HO1 HO2 HO391 HB; have HO1 := n0_; have HO2 := n1_; have HO391 := n2_; have HO396 := n3_; have HO399 := n4_; have HB := n5_; clear n0_ n1_ n2_ n3_ n4_ n5_; (try clear hb); (try clear ho0); (try clear ho1)))
    (try simp only [Act.put, List.setIfInBounds_toArray, List.set_cons_zero, List.set_cons_succ])
    have H := HC17.out
    clear HC17
    by_cases c19 : t400 = 0
    ·rw [if_pos c19] at H
     have c19b0 : (t400 == 0) = true := beq_iff_eq.mpr c19
     have c19b1 : (t400 != 0) = false := bne_eq_false_iff_eq.mpr c19
     clear c19
     (first | rw [c19b0] | rw [c19b1] | (simp only [i64_w, i32_w]; first | rw [c19b0] | rw [c19b1]) | skip)
     replace H := Option.bind_eq_some_iff.mp H
     obtain ⟨⟨t401, t404, t407, t410⟩, A200, H⟩ := H
     replace H : (if t410 = 0 then (euclid_Modulo.j0 k a0 l2 t410 ((t401.length : Int) == 0) t401 t404 t407) else (euclid_Modulo.j0 k a0 l2 t410 true t401 t404 t407)) = some (r1, r2, r3) := H
     have A20 := Aside0.mk A200
     clear A200
     have HC21 := Aside0.mk H
     clear H
     obtain ⟨Ao22, co22, eo22⟩ := Kd.R_slice HO399.out
     subst eo22
     go_upto_region 13 with (first | ((with_reducible refine gate_callee (f := 34) rfl ?_); refine goesM_ (some 42) Try.func34 #[.int .u8 a0, .slice A2 l2.length c2, .slice Ao22 t397.length co22, .int .i64 1] ?_; (with_reducible refine (euclid_partial.calls k a0 _ _ l2 _ _ t397 1 t401 t404 t407 t410 _ ?side1 ?side2 ?side3 ?side4 A20.out).mono ?_); (case side1 => repeat (first | exact (Kd.V_reads' HO2.out).2.2 | (with_reducible refine Kd.C_alloc ?_ _) | (with_reducible refine Kd.C_drewN ?_ _) | (with_reducible refine Kd.C_drew ?_))); (case side2 => exact (Kd.V_reads' HO2.out).2.1); (case side3 => repeat (first | exact (Kd.R_reads' HO399.out).2.2 | (with_reducible refine Kd.C_alloc ?_ _) | (with_reducible refine Kd.C_drewN ?_ _) | (with_reducible refine Kd.C_drew ?_))); (case side4 => exact (Kd.R_reads' HO399.out).2.1); rintro e w23 ⟨v402, v405, v408, rfl, ho0, ho1, ho2, hb⟩; refine ⟨_, rfl, ?_⟩; have n0_ := A_ (Kd.V_below (nV_ HO1) hb); have n1_ := A_ (Kd.V_below (nV_ HO2) hb); have n2_ := A_ (Kd.N_below (nN_ HO391) hb); have n3_ := A_ (Kd.R_below (nR_ HO396) hb); have n4_ := A_ (Kd.R_below (nR_ HO399) hb); have n5_ := A_ (Kd.R_lower (Kd.R_newM (M := fun k_ => (w.heap.size ≤ k_)) (Kd.R_mono (ok' := fun _ => True) ho0 (fun _ _ => trivial)) (below_size hb_) (fun k_ h_ => h_)) (below_size hb_)); have n6_ := A_ (Kd.R_lower (Kd.R_newM (M := fun k_ => (w.heap.size ≤ k_)) (Kd.R_mono (ok' := fun _ => True) ho1 (fun _ _ => trivial)) (below_size hb_) (fun k_ h_ => h_)) (below_size hb_)); have n7_ := A_ (Kd.R_lower (Kd.R_newM (M := fun k_ => (w.heap.size ≤ k_)) (Kd.R_mono (ok' := fun _ => True) ho2 (fun _ _ => trivial)) (below_size hb_) (fun k_ h_ => h_)) (below_size hb_)); have n8_ := A_ (below_step hb_ hb); clear HO1 HO2 HO391 HO396 HO399 HB; have HO1 := n0_; have HO2 := n1_; have HO391 := n2_; have HO396 := n3_; have HO399 := n4_; have HO403 := n5_; have HO406 := n6_; have HO409 := n7_; have HB := n8_; clear n0_ n1_ n2_ n3_ n4_ n5_ n6_ n7_ n8_; (try clear hb); (try clear ho0); (try clear ho1); (try clear ho2)) | ((with_reducible refine gate_dst (N := 11) rfl ?_); (try (refine gate_guard (by rfl) ?_; dsimp only)); refine box_event ?hg (N := 11) ?hd (cs := #[.slice none 0 0, .slice none 0 0, .slice none 0 0]) (t := 61) ?hr ?_; (case hd => rfl); (case hg => rfl); (case hr => first | (go_simp; done) | (go_simp; rfl)); intro gb411 hg w24 hbox hb; have n0_ := A_ (Kd.V_below (Kd.V_elderB (nV_ HO1) gb411 (Nat.le_of_eq hg.symm)) hb); have n1_ := A_ (Kd.V_below (Kd.V_elderB (nV_ HO2) gb411 (Nat.le_of_eq hg.symm)) hb); have n2_ := A_ (Kd.N_below (Kd.N_elderB (nN_ HO391) gb411 (Nat.le_of_eq hg.symm)) hb); have n3_ := A_ (Kd.R_below (nR_ HO396) hb); have n4_ := A_ (Kd.R_below (nR_ HO399) hb); have n5_ := A_ (Kd.R_below (nR_ HO403) hb); have n6_ := A_ (Kd.R_below (nR_ HO406) hb); have n7_ := A_ (Kd.R_below (nR_ HO409) hb); have n8_ := A_ (below_step hb_ hb); have n9_ := A_ (hbox); have n10_ := A_ ((by rw [hg]; exact (below_size hb_) : w.heap.size ≤ gb411)); have n11_ := A_ ((by rw [hg]; exact (below_size hb_) : w.heap.size ≤ gb411)); clear HO1 HO2 HO391 HO396 HO399 HO403 HO406 HO409 HB; have HO1 := n0_; have HO2 := n1_; have HO391 := n2_; have HO396 := n3_; have HO399 := n4_; have HO403 := n5_; have HO406 := n6_; have HO409 := n7_; have HB := n8_; have BK411 := n9_; have GW411 := n10_; have GE411 := n11_; clear n0_ n1_ n2_ n3_ n4_ n5_ n6_ n7_ n8_ n9_ n10_ n11_; clear hb hbox hg; obtain ⟨Ao25, co25, eo25⟩ := Kd.R_slice HO403.out; subst eo25; have hcz26_0 : w24.cell? ⟨gb411, 0, none⟩ = some (.slice none 0 0) := (blk_cell BK411.out 0).trans rfl; have hcz26_1 : w24.cell? ⟨gb411, 1, none⟩ = some (.slice none 0 0) := (blk_cell BK411.out 1).trans rfl; have hcz26_2 : w24.cell? ⟨gb411, 2, none⟩ = some (.slice none 0 0) := (blk_cell BK411.out 2).trans rfl; have hfz26_0 := blk_frozen BK411.out 0; have hfz26_1 := blk_frozen BK411.out 1; have hfz26_2 := blk_frozen BK411.out 2; obtain ⟨Ao27, co27, eo27⟩ := Kd.R_slice HO406.out; subst eo27; obtain ⟨Ao28, co28, eo28⟩ := Kd.R_slice HO409.out; subst eo28))
     (try simp only [Act.put, List.setIfInBounds_toArray, List.set_cons_zero, List.set_cons_succ])
     go_cut [52] (fun v52 wc => ∃ (kq : Nat) (x52_20 : Bool), v52 = .bool x52_20 ∧ Aside0 (euclid_Modulo.j0 kq a0 l2 t410 x52_20 t401 t404 t407 = some (r1, r2, r3)) ∧ Aside0 (kq ≤ k) ∧ Aside0 (Kd.V (Kd.int .u64) 40 wc w.heap.size (fun k_ => ((P1_ k_ ∨ P2_ k_) ∨ w.heap.size ≤ k_) ∧ k_ ≠ gb411) (.slice A2 l2.length c2) l2) ∧ Aside0 (Kd.R (Kd.int .u64) 40 wc w.heap.size (fun k_ => (w.heap.size ≤ k_)) (.slice Ao25 t401.length co25) t401) ∧ Aside0 (Kd.R (Kd.int .u64) 40 wc w.heap.size (fun k_ => (w.heap.size ≤ k_)) (.slice Ao27 t404.length co27) t404) ∧ Aside0 (Kd.R (Kd.int .u64) 40 wc w.heap.size (fun k_ => (w.heap.size ≤ k_)) (.slice Ao28 t407.length co28) t407) ∧ Aside0 (wc.heap[gb411]? = some (.cells #[(.slice Ao25 t401.length co25), (.slice Ao27 t404.length co27), (.slice Ao28 t407.length co28)] 61 (0, 0))) ∧ Aside0 (Below w.heap.size w wc))
     case first =>
      have H := HC21.out
      clear HC21
      by_cases c29 : t410 = 0
      ·rw [if_pos c29] at H
       have c29b0 : (t410 == 0) = true := beq_iff_eq.mpr c29
       have c29b1 : (t410 != 0) = false := bne_eq_false_iff_eq.mpr c29
       clear c29
       (first | rw [c29b0] | rw [c29b1] | (simp only [i64_w, i32_w]; first | rw [c29b0] | rw [c29b1]) | skip)
       have H' := Aside0.mk H
       clear H
       have hcz30_0 : w24.cell? ⟨gb411, 0, none⟩ = some (.slice none 0 0) := (blk_cell BK411.out 0).trans rfl
       have hcz30_1 : w24.cell? ⟨gb411, 1, none⟩ = some (.slice none 0 0) := (blk_cell BK411.out 1).trans rfl
       have hcz30_2 : w24.cell? ⟨gb411, 2, none⟩ = some (.slice none 0 0) := (blk_cell BK411.out 2).trans rfl
       have hfz30_0 := blk_frozen BK411.out 0
       have hfz30_1 := blk_frozen BK411.out 1
       have hfz30_2 := blk_frozen BK411.out 2
       go_wp2
       go_meet
       case rel => exact ⟨_, (((t401.length : Int) == 0)), (fs_), H', ⟨fo_⟩, ⟨by (with_reducible repeat (first | apply Kd.V_alloc | apply Kd.V_drewN | apply Kd.V_drew)); exact Kd.V_mono (Kd.V_far (p := ⟨gb411, 2, none⟩) (Kd.V_far (p := ⟨gb411, 1, none⟩) (Kd.V_far (p := ⟨gb411, 0, none⟩) (Kd.V_mono HO2.out (fun k_ hk => (⟨hk, hk.2⟩ : _ ∧ k_ ≠ gb411))) (fun _ hk => hk.2) (.slice Ao25 t401.length co25)) (fun _ hk => hk.2) (.slice Ao27 t404.length co27)) (fun _ hk => hk.2) (.slice Ao28 t407.length co28)) (fun _ hk => ⟨hk.1.1, hk.1.2⟩)⟩, ⟨by (with_reducible repeat (first | apply Kd.R_alloc | apply Kd.R_drewN | apply Kd.R_drew)); exact Kd.R_mono (Kd.R_far (p := ⟨gb411, 2, none⟩) (Kd.R_far (p := ⟨gb411, 1, none⟩) (Kd.R_far (p := ⟨gb411, 0, none⟩) (Kd.R_types HO403.out BK411.out (by decide)) (fun _ hk => hk.2) (.slice Ao25 t401.length co25)) (fun _ hk => hk.2) (.slice Ao27 t404.length co27)) (fun _ hk => hk.2) (.slice Ao28 t407.length co28)) (fun _ hk => hk.1.1)⟩, ⟨by (with_reducible repeat (first | apply Kd.R_alloc | apply Kd.R_drewN | apply Kd.R_drew)); exact Kd.R_mono (Kd.R_far (p := ⟨gb411, 2, none⟩) (Kd.R_far (p := ⟨gb411, 1, none⟩) (Kd.R_far (p := ⟨gb411, 0, none⟩) (Kd.R_types HO406.out BK411.out (by decide)) (fun _ hk => hk.2) (.slice Ao25 t401.length co25)) (fun _ hk => hk.2) (.slice Ao27 t404.length co27)) (fun _ hk => hk.2) (.slice Ao28 t407.length co28)) (fun _ hk => hk.1.1)⟩, ⟨by (with_reducible repeat (first | apply Kd.R_alloc | apply Kd.R_drewN | apply Kd.R_drew)); exact Kd.R_mono (Kd.R_far (p := ⟨gb411, 2, none⟩) (Kd.R_far (p := ⟨gb411, 1, none⟩) (Kd.R_far (p := ⟨gb411, 0, none⟩) (Kd.R_types HO409.out BK411.out (by decide)) (fun _ hk => hk.2) (.slice Ao25 t401.length co25)) (fun _ hk => hk.2) (.slice Ao27 t404.length co27)) (fun _ hk => hk.2) (.slice Ao28 t407.length co28)) (fun _ hk => hk.1.1)⟩, ⟨by (with_reducible repeat (first | refine blk_drewN ?_ _ | refine blk_drew ?_ | refine blk_alloc ?_ _)); refine blk_put (cs := #[.slice Ao25 t401.length co25, .slice Ao27 t404.length co27, .slice none 0 0]) ?_ 2 _ rfl; (with_reducible repeat (first | refine blk_drewN ?_ _ | refine blk_drew ?_ | refine blk_alloc ?_ _)); refine blk_put (cs := #[.slice Ao25 t401.length co25, .slice none 0 0, .slice none 0 0]) ?_ 1 _ rfl; (with_reducible repeat (first | refine blk_drewN ?_ _ | refine blk_drew ?_ | refine blk_alloc ?_ _)); refine blk_put (cs := #[.slice none 0 0, .slice none 0 0, .slice none 0 0]) ?_ 0 _ rfl; (with_reducible repeat (first | refine blk_drewN ?_ _ | refine blk_drew ?_ | refine blk_alloc ?_ _)); exact BK411.out⟩, ⟨hs_⟩⟩
      ·rw [if_neg c29] at H
       have c29b0 : (t410 == 0) = false := beq_eq_false_iff_ne.mpr c29
       have c29b1 : (t410 != 0) = true := bne_iff_ne.mpr c29
       (first | rw [c29b0] | rw [c29b1] | (simp only [i64_w, i32_w]; first | rw [c29b0] | rw [c29b1]) | skip)
       have H' := Aside0.mk H
       clear H
       go_wp2
       go_meet
       case rel => exact ⟨_, (true), (fs_), H', ⟨fo_⟩, ⟨by (with_reducible repeat (first | apply Kd.V_alloc | apply Kd.V_drewN | apply Kd.V_drew)); exact Kd.V_mono (Kd.V_far (p := ⟨gb411, 2, none⟩) (Kd.V_far (p := ⟨gb411, 1, none⟩) (Kd.V_far (p := ⟨gb411, 0, none⟩) (Kd.V_mono HO2.out (fun k_ hk => (⟨hk, hk.2⟩ : _ ∧ k_ ≠ gb411))) (fun _ hk => hk.2) (.slice Ao25 t401.length co25)) (fun _ hk => hk.2) (.slice Ao27 t404.length co27)) (fun _ hk => hk.2) (.slice Ao28 t407.length co28)) (fun _ hk => ⟨hk.1.1, hk.1.2⟩)⟩, ⟨by (with_reducible repeat (first | apply Kd.R_alloc | apply Kd.R_drewN | apply Kd.R_drew)); exact Kd.R_mono (Kd.R_far (p := ⟨gb411, 2, none⟩) (Kd.R_far (p := ⟨gb411, 1, none⟩) (Kd.R_far (p := ⟨gb411, 0, none⟩) (Kd.R_types HO403.out BK411.out (by decide)) (fun _ hk => hk.2) (.slice Ao25 t401.length co25)) (fun _ hk => hk.2) (.slice Ao27 t404.length co27)) (fun _ hk => hk.2) (.slice Ao28 t407.length co28)) (fun _ hk => hk.1.1)⟩, ⟨by (with_reducible repeat (first | apply Kd.R_alloc | apply Kd.R_drewN | apply Kd.R_drew)); exact Kd.R_mono (Kd.R_far (p := ⟨gb411, 2, none⟩) (Kd.R_far (p := ⟨gb411, 1, none⟩) (Kd.R_far (p := ⟨gb411, 0, none⟩) (Kd.R_types HO406.out BK411.out (by decide)) (fun _ hk => hk.2) (.slice Ao25 t401.length co25)) (fun _ hk => hk.2) (.slice Ao27 t404.length co27)) (fun _ hk => hk.2) (.slice Ao28 t407.length co28)) (fun _ hk => hk.1.1)⟩, ⟨by (with_reducible repeat (first | apply Kd.R_alloc | apply Kd.R_drewN | apply Kd.R_drew)); exact Kd.R_mono (Kd.R_far (p := ⟨gb411, 2, none⟩) (Kd.R_far (p := ⟨gb411, 1, none⟩) (Kd.R_far (p := ⟨gb411, 0, none⟩) (Kd.R_types HO409.out BK411.out (by decide)) (fun _ hk => hk.2) (.slice Ao25 t401.length co25)) (fun _ hk => hk.2) (.slice Ao27 t404.length co27)) (fun _ hk => hk.2) (.slice Ao28 t407.length co28)) (fun _ hk => hk.1.1)⟩, ⟨by (with_reducible repeat (first | refine blk_drewN ?_ _ | refine blk_drew ?_ | refine blk_alloc ?_ _)); refine blk_put (cs := #[.slice Ao25 t401.length co25, .slice Ao27 t404.length co27, .slice none 0 0]) ?_ 2 _ rfl; (with_reducible repeat (first | refine blk_drewN ?_ _ | refine blk_drew ?_ | refine blk_alloc ?_ _)); refine blk_put (cs := #[.slice Ao25 t401.length co25, .slice none 0 0, .slice none 0 0]) ?_ 1 _ rfl; (with_reducible repeat (first | refine blk_drewN ?_ _ | refine blk_drew ?_ | refine blk_alloc ?_ _)); refine blk_put (cs := #[.slice none 0 0, .slice none 0 0, .slice none 0 0]) ?_ 0 _ rfl; (with_reducible repeat (first | refine blk_drewN ?_ _ | refine blk_drew ?_ | refine blk_alloc ?_ _)); exact BK411.out⟩, ⟨hs_⟩⟩
     case rest =>
      clear HC21
      try clear c1
      try clear c2
      try clear p2
      try clear c3
      try clear c10
      try clear c10b0
      try clear c10b1
      try clear c12
      try clear c14
      try clear c14b0
      try clear c14b1
      try clear c15
      try clear c15b0
      try clear c15b1
      try clear c19
      try clear c19b0
      try clear c19b1
      try clear c27
      try clear c29
      try clear c29b0
      try clear c29b1
      try clear hcz26_0
      try clear hcz26_1
      try clear hcz26_2
      try clear hcz30_0
      try clear hcz30_1
      try clear hcz30_2
      try clear hfz26_0
      try clear hfz26_1
      try clear hfz26_2
      try clear hfz30_0
      try clear hfz30_1
      try clear hfz30_2
      obtain ⟨kq, x52_20, rfl, HA, HJ20, HO_2, HO_412000, HO_412001, HO_412002, BK411, HB⟩ := hcut
      cases kq with
      | zero => exact absurd HA.out (by simp [euclid_Modulo.j0])
      | succ kj20 =>
       have H := HA.out
       clear HA
       simp only [euclid_Modulo.j0] at H
       by_cases c31 : x52_20 = true
       ·subst c31
        have H1 : (some (([] : List Int), false, t410)) = some (r1, r2, r3) := by rw [if_pos rfl] at H; exact H
        clear H
        have H := H1
        clear H1
        simp only [Option.some.injEq, Prod.mk.injEq] at H
        obtain ⟨rfl, rfl, rfl⟩ := H
        go_wp2
        go_ret3
        exact ⟨_, fr_, by first | exact Kd.R_nil _ _ _ _ _ | exact Kd.N_nil _ _ _ _ _ | exact Kd.V_nil _ _ _ _ _ | exact Kd.Q_nil _ _ _ _ _ | exact Kd.S_nil _ _ _ _ _, hs_⟩
       ·replace c31 := Bool.eq_false_iff.mpr c31
        subst c31
        have H1 : (if 0 < (t401.length : Int) then ((field_Inv.f kj20 a0 (rd t401 0)).bind fun bt413 => (if bt413.2 = 0 then ((poly_Scale.f kj20 a0 bt413.1 t407).bind fun bt415 => (if bt415.2 = 0 then ((poly_DivMod.f kj20 a0 bt415.1 l2).bind fun bt419 => (some (bt419.2.1, (bt419.2.2 == 0), bt419.2.2))) else (some (([] : List Int), false, bt415.2)))) else (some (([] : List Int), false, bt413.2)))) else (none)) = some (r1, r2, r3) := by rw [if_neg (show ¬ (false = true) by decide)] at H; exact H
        clear H
        have H := H1
        clear H1
        by_cases c32 : 0 < (t401.length : Int)
        ·rw [if_pos c32] at H
         have c32b0 : decide (0 < (t401.length : Int)) = true := decide_eq_true c32
         have c32b1 : decide (0 < t401.length) = true := decide_eq_true (by omega)
         clear c32
         replace H := Option.bind_eq_some_iff.mp H
         obtain ⟨⟨t413, t414⟩, A330, H⟩ := H
         replace H : (if t414 = 0 then ((poly_Scale.f kj20 a0 t413 t407).bind fun bt415 => (if bt415.2 = 0 then ((poly_DivMod.f kj20 a0 bt415.1 l2).bind fun bt419 => (some (bt419.2.1, (bt419.2.2 == 0), bt419.2.2))) else (some (([] : List Int), false, bt415.2)))) else (some (([] : List Int), false, t414))) = some (r1, r2, r3) := H
         have A33 := Aside0.mk A330
         clear A330
         have HC34 := Aside0.mk H
         clear H
         have hcz35_0 : wc.cell? ⟨gb411, 0, none⟩ = some (.slice Ao25 t401.length co25) := (blk_cell BK411.out 0).trans rfl
         have hcz35_1 : wc.cell? ⟨gb411, 1, none⟩ = some (.slice Ao27 t404.length co27) := (blk_cell BK411.out 1).trans rfl
         have hcz35_2 : wc.cell? ⟨gb411, 2, none⟩ = some (.slice Ao28 t407.length co28) := (blk_cell BK411.out 2).trans rfl
         have hfz35_0 := blk_frozen BK411.out 0
         have hfz35_1 := blk_frozen BK411.out 1
         have hfz35_2 := blk_frozen BK411.out 2
         have p412 : 0 ≤ (0 : Int) := (by omega)
         have q412 : 0 < (t401.length : Int) := of_decide_eq_true (by first | (with_reducible assumption) | assumption)
         obtain ⟨ad412, e412, hx412_0⟩ := Kd.at_int (Kd.R_reads' HO_412000.out).2.2 0 p412 q412
         cases e412
         have qi412 : (0 < t401.length) = True := eq_true (by omega)
         (try rw [show ((0 : Int)).toNat = 0 from rfl] at hx412_0)
         (try rw [Addr.add_zero'] at hx412_0)
         replace p412 := eq_true p412
         replace q412 := eq_true q412
         go_upto_if 64 with (first | ((with_reducible refine gate_callee (f := 35) rfl ?_); refine goesM_ (some 60) Try.func35 #[.int .u8 a0, .int .u64 (rd t401 0)] ?_; (with_reducible refine (field_Inv.calls kj20 a0 (rd t401 0) t413 t414 _ A33.out).mono ?_); rintro e w36 ⟨rfl, hb⟩; refine ⟨_, rfl, ?_⟩; have n0_ := A_ (Kd.V_below (nV_ HO_2) hb); have n1_ := A_ (Kd.R_below (nR_ HO_412000) hb); have n2_ := A_ (Kd.R_below (nR_ HO_412001) hb); have n3_ := A_ (Kd.R_below (nR_ HO_412002) hb); have n4_ := A_ (blk_below (g := gb411) (o := .cells #[.slice (some ad412) t401.length co25, .slice Ao27 t404.length co27, .slice Ao28 t407.length co28] 61 (0, 0)) (nb_ BK411) hb); have n5_ := A_ (below_step hs_ hb); clear HO_2 HO_412000 HO_412001 HO_412002 BK411 HB; have HO_2 := n0_; have HO_412000 := n1_; have HO_412001 := n2_; have HO_412002 := n3_; have BK411 := n4_; have HB := n5_; clear n0_ n1_ n2_ n3_ n4_ n5_; (try clear hb)))
         (try simp only [Act.put, List.setIfInBounds_toArray, List.set_cons_zero, List.set_cons_succ])
         have H := HC34.out
         clear HC34
         by_cases c37 : t414 = 0
         ·rw [if_pos c37] at H
          have c37b0 : (t414 == 0) = true := beq_iff_eq.mpr c37
          have c37b1 : (t414 != 0) = false := bne_eq_false_iff_eq.mpr c37
          clear c37
          (first | rw [c37b0] | rw [c37b1] | (simp only [i64_w, i32_w]; first | rw [c37b0] | rw [c37b1]) | skip)
          replace H := Option.bind_eq_some_iff.mp H
          obtain ⟨⟨t415, t416⟩, A380, H⟩ := H
          replace H : (if t416 = 0 then ((poly_DivMod.f kj20 a0 t415 l2).bind fun bt419 => (some (bt419.2.1, (bt419.2.2 == 0), bt419.2.2))) else (some (([] : List Int), false, t416))) = some (r1, r2, r3) := H
          have A38 := Aside0.mk A380
          clear A380
          have HC39 := Aside0.mk H
          clear H
          have hcz40_0 : w36.cell? ⟨gb411, 0, none⟩ = some (.slice (some ad412) t401.length co25) := (blk_cell BK411.out 0).trans rfl
          have hcz40_1 : w36.cell? ⟨gb411, 1, none⟩ = some (.slice Ao27 t404.length co27) := (blk_cell BK411.out 1).trans rfl
          have hcz40_2 : w36.cell? ⟨gb411, 2, none⟩ = some (.slice Ao28 t407.length co28) := (blk_cell BK411.out 2).trans rfl
          have hfz40_0 := blk_frozen BK411.out 0
          have hfz40_1 := blk_frozen BK411.out 1
          have hfz40_2 := blk_frozen BK411.out 2
          go_upto_if 75 with (first | ((with_reducible refine gate_callee (f := 36) rfl ?_); refine goesM_ (some 71) Try.func36 #[.int .u8 a0, .int .u64 t413, .slice Ao28 t407.length co28] ?_; (with_reducible refine (poly_Scale.calls kj20 a0 t413 _ _ t407 t415 t416 _ ?side1 ?side2 A38.out).mono ?_); (case side1 => repeat (first | exact (Kd.R_reads' HO_412002.out).2.2 | (with_reducible refine Kd.C_alloc ?_ _) | (with_reducible refine Kd.C_drewN ?_ _) | (with_reducible refine Kd.C_drew ?_))); (case side2 => exact (Kd.R_reads' HO_412002.out).2.1); rintro e w41 ⟨v417, rfl, ho0, hb⟩; refine ⟨_, rfl, ?_⟩; have n0_ := A_ (Kd.V_below (nV_ HO_2) hb); have n1_ := A_ (Kd.R_below (nR_ HO_412000) hb); have n2_ := A_ (Kd.R_below (nR_ HO_412001) hb); have n3_ := A_ (Kd.R_below (nR_ HO_412002) hb); have n4_ := A_ (Kd.R_lower (Kd.R_newM (M := fun k_ => (w.heap.size ≤ k_)) (Kd.R_mono (ok' := fun _ => True) ho0 (fun _ _ => trivial)) (below_size hs_) (fun k_ h_ => h_)) (below_size hs_)); have n5_ := A_ (blk_below (g := gb411) (o := .cells #[.slice (some ad412) t401.length co25, .slice Ao27 t404.length co27, .slice Ao28 t407.length co28] 61 (0, 0)) (nb_ BK411) hb); have n6_ := A_ (below_step hs_ hb); clear HO_2 HO_412000 HO_412001 HO_412002 BK411 HB; have HO_2 := n0_; have HO_412000 := n1_; have HO_412001 := n2_; have HO_412002 := n3_; have HO418 := n4_; have BK411 := n5_; have HB := n6_; clear n0_ n1_ n2_ n3_ n4_ n5_ n6_; (try clear hb); (try clear ho0)))
          (try simp only [Act.put, List.setIfInBounds_toArray, List.set_cons_zero, List.set_cons_succ])
          have H := HC39.out
          clear HC39
          by_cases c42 : t416 = 0
          ·rw [if_pos c42] at H
           have c42b0 : (t416 == 0) = true := beq_iff_eq.mpr c42
           have c42b1 : (t416 != 0) = false := bne_eq_false_iff_eq.mpr c42
           clear c42
           (first | rw [c42b0] | rw [c42b1] | (simp only [i64_w, i32_w]; first | rw [c42b0] | rw [c42b1]) | skip)
           replace H := Option.bind_eq_some_iff.mp H
           obtain ⟨⟨t419, t422, t425⟩, A430, H⟩ := H
           replace H : (some (t422, (t425 == 0), t425)) = some (r1, r2, r3) := H
           have A43 := Aside0.mk A430
           clear A430
           simp only [Option.some.injEq, Prod.mk.injEq] at H
           obtain ⟨rfl, rfl, rfl⟩ := H
           obtain ⟨Ao44, co44, eo44⟩ := Kd.R_slice HO418.out
           subst eo44
           go_wp2_with (first | ((with_reducible refine gate_callee (f := 29) rfl ?_); refine goesM_ (some 81) Try.func29 #[.int .u8 a0, .slice Ao44 t415.length co44, .slice A2 l2.length c2] ?_; (with_reducible refine (poly_DivMod.calls kj20 a0 (fun k_ => some k_ = (.slice Ao44 t415.length co44 : Value).ownBlock) _ _ t415 (fun k_ => (((P1_ k_ ∨ P2_ k_) ∨ w.heap.size ≤ k_) ∧ k_ ≠ gb411)) _ _ l2 t419 t422 t425 _ ?side1 ?side2 A43.out).mono ?_); (case side1 => exact Kd.R_V (Kd.R_tight rfl (HO418.out))); (case side2 => exact HO_2.out); rintro e w45 ⟨v420, v423, rfl, ho0, ho1, hb⟩; refine ⟨_, rfl, ?_⟩; have n0_ := A_ (Kd.V_below (nV_ HO_2) hb); have n1_ := A_ (Kd.R_below (nR_ HO_412000) hb); have n2_ := A_ (Kd.R_below (nR_ HO_412001) hb); have n3_ := A_ (Kd.R_below (nR_ HO_412002) hb); have n4_ := A_ (Kd.R_below (nR_ HO418) hb); have n5_ := A_ (Kd.R_lower (Kd.R_newM (M := fun k_ => (w.heap.size ≤ k_)) (Kd.R_mono (ok' := fun k_ => True) ho0 (fun _ hk_ => trivial)) (below_size hs_) (fun k_ h_ => h_)) (below_size hs_)); have n6_ := A_ (Kd.R_lower (Kd.R_newM (M := fun k_ => (w.heap.size ≤ k_)) (Kd.R_mono (ok' := fun k_ => True) ho1 (fun _ hk_ => trivial)) (below_size hs_) (fun k_ h_ => h_)) (below_size hs_)); have n7_ := A_ (blk_below (g := gb411) (o := .cells #[.slice (some ad412) t401.length co25, .slice Ao27 t404.length co27, .slice Ao28 t407.length co28] 61 (0, 0)) (nb_ BK411) hb); have n8_ := A_ (below_step hs_ hb); clear HO_2 HO_412000 HO_412001 HO_412002 HO418 BK411 HB; have HO_2 := n0_; have HO_412000 := n1_; have HO_412001 := n2_; have HO_412002 := n3_; have HO418 := n4_; have HO421 := n5_; have HO424 := n6_; have BK411 := n7_; have HB := n8_; clear n0_ n1_ n2_ n3_ n4_ n5_ n6_ n7_ n8_; (try clear hb); (try clear ho0); (try clear ho1)))
           go_ret3
           exact ⟨_, fr_, by (with_reducible repeat (first | apply Kd.R_alloc | apply Kd.R_drewN | apply Kd.R_drew)); exact Kd.R_mono HO424.out (fun _ hk => hk.1), hs_⟩
          ·rw [if_neg c42] at H
           have c42b0 : (t416 == 0) = false := beq_eq_false_iff_ne.mpr c42
           have c42b1 : (t416 != 0) = true := bne_iff_ne.mpr c42
           (first | rw [c42b0] | rw [c42b1] | (simp only [i64_w, i32_w]; first | rw [c42b0] | rw [c42b1]) | skip)
           simp only [Option.some.injEq, Prod.mk.injEq] at H
           obtain ⟨rfl, rfl, rfl⟩ := H
           go_wp2
           go_ret3
           exact ⟨_, fr_, by first | exact Kd.R_nil _ _ _ _ _ | exact Kd.N_nil _ _ _ _ _ | exact Kd.V_nil _ _ _ _ _ | exact Kd.Q_nil _ _ _ _ _ | exact Kd.S_nil _ _ _ _ _, hs_⟩
         ·rw [if_neg c37] at H
          have c37b0 : (t414 == 0) = false := beq_eq_false_iff_ne.mpr c37
          have c37b1 : (t414 != 0) = true := bne_iff_ne.mpr c37
          (first | rw [c37b0] | rw [c37b1] | (simp only [i64_w, i32_w]; first | rw [c37b0] | rw [c37b1]) | skip)
          simp only [Option.some.injEq, Prod.mk.injEq] at H
          obtain ⟨rfl, rfl, rfl⟩ := H
          go_wp2
          go_ret3
          exact ⟨_, fr_, by first | exact Kd.R_nil _ _ _ _ _ | exact Kd.N_nil _ _ _ _ _ | exact Kd.V_nil _ _ _ _ _ | exact Kd.Q_nil _ _ _ _ _ | exact Kd.S_nil _ _ _ _ _, hs_⟩
        ·rw [if_neg c32] at H
         exact absurd H (by simp)
    ·rw [if_neg c19] at H
     have c19b0 : (t400 == 0) = false := beq_eq_false_iff_ne.mpr c19
     have c19b1 : (t400 != 0) = true := bne_iff_ne.mpr c19
     (first | rw [c19b0] | rw [c19b1] | (simp only [i64_w, i32_w]; first | rw [c19b0] | rw [c19b1]) | skip)
     simp only [Option.some.injEq, Prod.mk.injEq] at H
     obtain ⟨rfl, rfl, rfl⟩ := H
     go_wp2
     go_ret3
     exact ⟨_, fr_, by first | exact Kd.R_nil _ _ _ _ _ | exact Kd.N_nil _ _ _ _ _ | exact Kd.V_nil _ _ _ _ _ | exact Kd.Q_nil _ _ _ _ _ | exact Kd.S_nil _ _ _ _ _, hb_⟩
 ·rw [if_neg c10] at H
  have c10b0 : (t392 == 0) = false := beq_eq_false_iff_ne.mpr c10
  have c10b1 : (t392 != 0) = true := bne_iff_ne.mpr c10
  (first | rw [c10b0] | rw [c10b1] | (simp only [i64_w, i32_w]; first | rw [c10b0] | rw [c10b1]) | skip)
  simp only [Option.some.injEq, Prod.mk.injEq] at H
  obtain ⟨rfl, rfl, rfl⟩ := H
  go_wp2
  go_ret3
  exact ⟨_, fr_, by first | exact Kd.R_nil _ _ _ _ _ | exact Kd.N_nil _ _ _ _ _ | exact Kd.V_nil _ _ _ _ _ | exact Kd.Q_nil _ _ _ _ _ | exact Kd.S_nil _ _ _ _ _, hb_⟩
/-! ### cr1_Same: function 14 -/
def cr1_Same.l0 : Nat → List Int → List Int → Int → Option (Bool)
 | 0, _, _, _ => none
 | k + 1, x0, x1, x5 => if x5 < (x0.length : Int) then (if 0 ≤ x5 then (if x5 < (x1.length : Int) then (if (rd x0 x5) = (rd x1 x5) then (cr1_Same.l0 k x0 x1 (wrap64 (x5 + 1))) else (some false)) else (none)) else (none)) else (some true)
def cr1_Same.f (k : Nat) (l0 : List Int) (l1 : List Int) : Option (Bool) := if (l0.length : Int) = (l1.length : Int) then (cr1_Same.l0 k l0 l1 0) else (some false)
theorem cr1_Same.mono_l : ∀ k, (∀ y0 y1 y2, LeO (cr1_Same.l0 k y0 y1 y2) (cr1_Same.l0 (k + 1) y0 y1 y2))
 | 0 => fun _ _ _ r h => by simp [cr1_Same.l0] at h
 | k + 1 => by
  have ih0 := cr1_Same.mono_l k
  ·intro y0 y1 y2
   unfold cr1_Same.l0
   repeat' first
   | (with_reducible exact ih0 _ _ _)
   | (with_reducible exact LeO.refl _)
   | (with_reducible exact LeO.none _)
   | (with_reducible refine LeO.ite ?_ ?_)
   | (with_reducible refine LeO.bind ?_ (fun _ => ?_))
   | exact ih0 _ _ _
   | exact LeO.none _
   | refine LeO.ite ?_ ?_
   | refine LeO.bind ?_ (fun _ => ?_)
theorem cr1_Same.mono : ∀ a0 a1 k, LeO (cr1_Same.f k a0 a1) (cr1_Same.f (k + 1) a0 a1) := by
 intro a0 a1 k
 have ih0 := cr1_Same.mono_l k
 unfold cr1_Same.f
 repeat' first
   | (with_reducible exact ih0 _ _ _)
   | (with_reducible exact LeO.refl _)
   | (with_reducible exact LeO.none _)
   | (with_reducible refine LeO.ite ?_ ?_)
   | (with_reducible refine LeO.bind ?_ (fun _ => ?_))
   | exact ih0 _ _ _
   | exact LeO.none _
   | refine LeO.ite ?_ ?_
   | refine LeO.bind ?_ (fun _ => ?_)
set_option maxHeartbeats 8000000 in
set_option maxRecDepth 100000 in
theorem cr1_Same.calls (k : Nat) (A0 : Option Addr) (c0 : Nat) (l0 : List Int) (A1 : Option Addr) (c1 : Nat) (l1 : List Int) (r : Bool) (w : World) (hr0 : Kd.C (Kd.int .u64) w A0 l0.length l0) (hc0 : l0.length ≤ c0) (hr1 : Kd.C (Kd.int .u64) w A1 l1.length l1) (hc1 : l1.length ≤ c1) (h : cr1_Same.f k l0 l1 = some r) :
  Calls Try.prog 14 #[.slice A0 l0.length c0, .slice A1 l1.length c1] w fun e w' => e = .returned (.bool r) ∧ Drawn0 w w' := by
 have HR0 := Aside0.mk hr0
 have HC0 := Aside0.mk hc0
 clear hr0 hc0
 have HR1 := Aside0.mk hr1
 have HC1 := Aside0.mk hc1
 clear hr1 hc1
 have H : (if (l0.length : Int) = (l1.length : Int) then (cr1_Same.l0 k l0 l1 0) else (some false)) = some r := h
 clear h
 by_cases c3 : (l0.length : Int) = (l1.length : Int)
 ·rw [if_pos c3] at H
  have c3b0 : ((l0.length : Int) == (l1.length : Int)) = true := beq_iff_eq.mpr c3
  have c3b1 : ((l0.length : Int) != (l1.length : Int)) = false := bne_eq_false_iff_eq.mpr c3
  have c3b2 : (l0.length == l1.length) = true := by first | simpa using c3 | (simp at c3 ⊢; omega)
  clear c3
  have H' := Aside0.mk H
  clear H
  go_enter Try.func14, Try.ntmps14
  go_wp2
  repeat (go_quiet (fail); try go_wp2)
  go_loopg [5] k (fun kq v5 w' => ∃ (x5_1 : Int), v5 = .int .i64 x5_1 ∧ Aside0 (cr1_Same.l0 kq l0 l1 x5_1 = some r) ∧ Aside0 (kq ≤ k) ∧ Drawn0 w w')
  case atStart => exact ⟨(0), (fs_), H', ⟨Nat.le_refl _⟩, by repeat (first | exact Drawn0.refl _ | apply Drawn0.step)⟩
  case round =>
   clear H'
   try clear c1
   try clear p2
   try clear c3
   try clear c3b0
   try clear c3b1
   try clear c3b2
   obtain ⟨x5_1, rfl, HA, HK1, ⟨m1, rfl⟩⟩ := hrel
   cases gk with
   | zero => exact absurd HA.out (by simp [cr1_Same.l0])
   | succ k1 =>
    have H := HA.out
    clear HA
    simp only [cr1_Same.l0] at H
    by_cases c4 : x5_1 < (l0.length : Int)
    ·rw [if_pos c4] at H
     have c4b0 : decide (x5_1 < (l0.length : Int)) = true := decide_eq_true c4
     clear c4
     by_cases c5 : 0 ≤ x5_1
     ·rw [if_pos c5] at H
      have c5b0 : decide (0 ≤ x5_1) = true := decide_eq_true c5
      clear c5
      by_cases c6 : x5_1 < (l1.length : Int)
      ·rw [if_pos c6] at H
       have c6b0 : decide (x5_1 < (l1.length : Int)) = true := decide_eq_true c6
       clear c6
       by_cases c7 : (rd l0 x5_1) = (rd l1 x5_1)
       ·rw [if_pos c7] at H
        have c7b0 : ((rd l0 x5_1) == (rd l1 x5_1)) = true := beq_iff_eq.mpr c7
        have c7b1 : ((rd l0 x5_1) != (rd l1 x5_1)) = false := bne_eq_false_iff_eq.mpr c7
        clear c7
        have H' := Aside0.mk H
        clear H
        have p426 : 0 ≤ (x5_1 : Int) := of_decide_eq_true (by first | (with_reducible assumption) | assumption)
        have q426 : x5_1 < (l0.length : Int) := of_decide_eq_true (by first | (with_reducible assumption) | assumption)
        obtain ⟨ad426, e426, hx426_0⟩ := Kd.at_int HR0.out x5_1 p426 q426
        cases e426
        replace p426 := eq_true p426
        replace q426 := eq_true q426
        have p427 : 0 ≤ (x5_1 : Int) := of_decide_eq_true (by first | (with_reducible assumption) | assumption)
        have q427 : x5_1 < (l1.length : Int) := of_decide_eq_true (by first | (with_reducible assumption) | assumption)
        obtain ⟨ad427, e427, hx427_0⟩ := Kd.at_int HR1.out x5_1 p427 q427
        cases e427
        replace p427 := eq_true p427
        replace q427 := eq_true q427
        go_wp2
        repeat (go_quiet (fail); try go_wp2)
        go_roundg k1
        case measure => have := HK1.out; omega
        case rel => exact ⟨(wrap64 (x5_1 + 1)), (fs_), H', ⟨by have := HK1.out; omega⟩, by repeat (first | exact Drawn0.refl _ | apply Drawn0.step)⟩
       ·rw [if_neg c7] at H
        have c7b0 : ((rd l0 x5_1) == (rd l1 x5_1)) = false := beq_eq_false_iff_ne.mpr c7
        have c7b1 : ((rd l0 x5_1) != (rd l1 x5_1)) = true := bne_iff_ne.mpr c7
        obtain rfl := Option.some.inj H
        have p426 : 0 ≤ (x5_1 : Int) := of_decide_eq_true (by first | (with_reducible assumption) | assumption)
        have q426 : x5_1 < (l0.length : Int) := of_decide_eq_true (by first | (with_reducible assumption) | assumption)
        obtain ⟨ad426, e426, hx426_0⟩ := Kd.at_int HR0.out x5_1 p426 q426
        cases e426
        replace p426 := eq_true p426
        replace q426 := eq_true q426
        have p427 : 0 ≤ (x5_1 : Int) := of_decide_eq_true (by first | (with_reducible assumption) | assumption)
        have q427 : x5_1 < (l1.length : Int) := of_decide_eq_true (by first | (with_reducible assumption) | assumption)
        obtain ⟨ad427, e427, hx427_0⟩ := Kd.at_int HR1.out x5_1 p427 q427
        cases e427
        replace p427 := eq_true p427
        replace q427 := eq_true q427
        go_wp2
        repeat (go_quiet (fail); try go_wp2)
        go_ret
        exact ⟨fs_, by repeat (first | exact Drawn0.refl _ | apply Drawn0.step)⟩
      ·rw [if_neg c6] at H
       exact absurd H (by simp)
     ·rw [if_neg c5] at H
      exact absurd H (by simp)
    ·rw [if_neg c4] at H
     have c4b0 : decide (x5_1 < (l0.length : Int)) = false := decide_eq_false c4
     clear c4
     obtain rfl := Option.some.inj H
     go_wp2
     repeat (go_quiet (fail); try go_wp2)
     go_ret
     exact ⟨fs_, by repeat (first | exact Drawn0.refl _ | apply Drawn0.step)⟩
 ·rw [if_neg c3] at H
  have c3b0 : ((l0.length : Int) == (l1.length : Int)) = false := beq_eq_false_iff_ne.mpr c3
  have c3b1 : ((l0.length : Int) != (l1.length : Int)) = true := bne_iff_ne.mpr c3
  have c3b2 : (l0.length == l1.length) = false := by first | simpa using c3 | (simp at c3 ⊢; omega)
  obtain rfl := Option.some.inj H
  go_enter Try.func14, Try.ntmps14
  go_wp2
  repeat (go_quiet (fail); try go_wp2)
  go_ret
  exact ⟨fs_, by repeat (first | exact Drawn0.refl _ | apply Drawn0.step)⟩
/-! ### cr1_P: function 39 -/
def cr1_P.f (a0 : Int) : Option (Int) := if a0 = 1 then (some 2013265921) else (if a0 = 2 then (some 18446744069414584321) else (some 0))
set_option maxHeartbeats 8000000 in
set_option maxRecDepth 100000 in
theorem cr1_P.calls (a0 : Int) (r : Int) (w : World) (h : cr1_P.f a0 = some r) :
  Calls Try.prog 39 #[.int .u8 a0] w fun e w' => e = .returned (.int .u64 r) ∧ Drawn0 w w' := by
 have H : (if a0 = 1 then (some 2013265921) else (if a0 = 2 then (some 18446744069414584321) else (some 0))) = some r := h
 clear h
 by_cases c2 : a0 = 1
 ·rw [if_pos c2] at H
  have c2b0 : (a0 == 1) = true := beq_iff_eq.mpr c2
  have c2b1 : (a0 != 1) = false := bne_eq_false_iff_eq.mpr c2
  clear c2
  obtain rfl := Option.some.inj H
  go_enter Try.func39, Try.ntmps39
  go_wp2
  go_ret
  exact ⟨fs_, by repeat (first | exact Drawn0.refl _ | apply Drawn0.step)⟩
 ·rw [if_neg c2] at H
  have c2b0 : (a0 == 1) = false := beq_eq_false_iff_ne.mpr c2
  have c2b1 : (a0 != 1) = true := bne_iff_ne.mpr c2
  by_cases c3 : a0 = 2
  ·rw [if_pos c3] at H
   have c3b0 : (a0 == 2) = true := beq_iff_eq.mpr c3
   have c3b1 : (a0 != 2) = false := bne_eq_false_iff_eq.mpr c3
   clear c3
   obtain rfl := Option.some.inj H
   go_enter Try.func39, Try.ntmps39
   go_wp2
   go_ret
   exact ⟨fs_, by repeat (first | exact Drawn0.refl _ | apply Drawn0.step)⟩
  ·rw [if_neg c3] at H
   have c3b0 : (a0 == 2) = false := beq_eq_false_iff_ne.mpr c3
   have c3b1 : (a0 != 2) = true := bne_iff_ne.mpr c3
   obtain rfl := Option.some.inj H
   go_enter Try.func39, Try.ntmps39
   go_wp2
   go_ret
   exact ⟨fs_, by repeat (first | exact Drawn0.refl _ | apply Drawn0.step)⟩
/-! ### cr1_In: function 40 -/
def cr1_In.l0 : Nat → List Int → Int → Int → Option (Bool)
 | 0, _, _, _ => none
 | k + 1, x1, x5, x6 => if x6 < (x1.length : Int) then (if 0 ≤ x6 then (if (rd x1 x6) ≥ x5 then (some false) else (cr1_In.l0 k x1 x5 (wrap64 (x6 + 1)))) else (none)) else (some (x5 != 0))
def cr1_In.f (k : Nat) (a0 : Int) (l1 : List Int) : Option (Bool) := (cr1_P.f a0).bind fun t428 => (cr1_In.l0 k l1 t428 0)
theorem cr1_In.mono_l : ∀ k, (∀ y0 y1 y2, LeO (cr1_In.l0 k y0 y1 y2) (cr1_In.l0 (k + 1) y0 y1 y2))
 | 0 => fun _ _ _ r h => by simp [cr1_In.l0] at h
 | k + 1 => by
  have ih0 := cr1_In.mono_l k
  ·intro y0 y1 y2
   unfold cr1_In.l0
   repeat' first
   | (with_reducible exact ih0 _ _ _)
   | (with_reducible exact LeO.refl _)
   | (with_reducible exact LeO.none _)
   | (with_reducible refine LeO.ite ?_ ?_)
   | (with_reducible refine LeO.bind ?_ (fun _ => ?_))
   | exact ih0 _ _ _
   | exact LeO.none _
   | refine LeO.ite ?_ ?_
   | refine LeO.bind ?_ (fun _ => ?_)
theorem cr1_In.mono : ∀ a0 a1 k, LeO (cr1_In.f k a0 a1) (cr1_In.f (k + 1) a0 a1) := by
 intro a0 a1 k
 have ih0 := cr1_In.mono_l k
 unfold cr1_In.f
 repeat' first
   | (with_reducible exact ih0 _ _ _)
   | (with_reducible exact LeO.refl _)
   | (with_reducible exact LeO.none _)
   | (with_reducible refine LeO.ite ?_ ?_)
   | (with_reducible refine LeO.bind ?_ (fun _ => ?_))
   | exact ih0 _ _ _
   | exact LeO.none _
   | refine LeO.ite ?_ ?_
   | refine LeO.bind ?_ (fun _ => ?_)
set_option maxHeartbeats 8000000 in
set_option maxRecDepth 100000 in
theorem cr1_In.calls (k : Nat) (a0 : Int) (A1 : Option Addr) (c1 : Nat) (l1 : List Int) (r : Bool) (w : World) (hr1 : Kd.C (Kd.int .u64) w A1 l1.length l1) (hc1 : l1.length ≤ c1) (h : cr1_In.f k a0 l1 = some r) :
  Calls Try.prog 40 #[.int .u8 a0, .slice A1 l1.length c1] w fun e w' => e = .returned (.bool r) ∧ Drawn0 w w' := by
 have HR1 := Aside0.mk hr1
 have HC1 := Aside0.mk hc1
 clear hr1 hc1
 have H : ((cr1_P.f a0).bind fun t428 => (cr1_In.l0 k l1 t428 0)) = some r := h
 clear h
 replace H := Option.bind_eq_some_iff.mp H
 obtain ⟨t428, A30, H⟩ := H
 replace H : (cr1_In.l0 k l1 t428 0) = some r := H
 have A3 := Aside0.mk A30
 clear A30
 have H' := Aside0.mk H
 clear H
 go_enter Try.func40, Try.ntmps40
 go_wp2_with (first | ((with_reducible refine gate_callee (f := 39) rfl ?_); refine goesM_ (some 8) Try.func39 #[.int .u8 a0] ?_; (with_reducible refine (cr1_P.calls a0 t428 _ A3.out).mono ?_); rintro e w' ⟨rfl, ⟨nd, rfl⟩⟩; refine ⟨_, rfl, ?_⟩))
 go_loopg [6] k (fun kq v6 w' => ∃ (x6_1 : Int), v6 = .int .i64 x6_1 ∧ Aside0 (cr1_In.l0 kq l1 t428 x6_1 = some r) ∧ Aside0 (kq ≤ k) ∧ Drawn0 w w')
 case atStart => exact ⟨(0), (fs_), H', ⟨Nat.le_refl _⟩, by repeat (first | exact Drawn0.refl _ | apply Drawn0.step)⟩
 case round =>
  clear H'
  try clear c1
  try clear p2
  try clear c3
  obtain ⟨x6_1, rfl, HA, HK1, ⟨m1, rfl⟩⟩ := hrel
  cases gk with
  | zero => exact absurd HA.out (by simp [cr1_In.l0])
  | succ k1 =>
   have H := HA.out
   clear HA
   simp only [cr1_In.l0] at H
   by_cases c4 : x6_1 < (l1.length : Int)
   ·rw [if_pos c4] at H
    have c4b0 : decide (x6_1 < (l1.length : Int)) = true := decide_eq_true c4
    clear c4
    by_cases c5 : 0 ≤ x6_1
    ·rw [if_pos c5] at H
     have c5b0 : decide (0 ≤ x6_1) = true := decide_eq_true c5
     clear c5
     have HC6 := Aside0.mk H
     clear H
     have p429 : 0 ≤ (x6_1 : Int) := of_decide_eq_true (by first | (with_reducible assumption) | assumption)
     have q429 : x6_1 < (l1.length : Int) := of_decide_eq_true (by first | (with_reducible assumption) | assumption)
     obtain ⟨ad429, e429, hx429_0⟩ := Kd.at_int HR1.out x6_1 p429 q429
     cases e429
     replace p429 := eq_true p429
     replace q429 := eq_true q429
     go_upto_if 20 with (fail)
     have H := HC6.out
     clear HC6
     by_cases c7 : (rd l1 x6_1) ≥ t428
     ·rw [if_pos c7] at H
      have c7b0 : decide (t428 ≤ (rd l1 x6_1)) = true := decide_eq_true c7
      clear c7
      (first | rw [c7b0] | (simp only [i64_w, i32_w]; first | rw [c7b0]) | skip)
      obtain rfl := Option.some.inj H
      go_wp2
      go_ret
      exact ⟨fs_, by repeat (first | exact Drawn0.refl _ | apply Drawn0.step)⟩
     ·rw [if_neg c7] at H
      have c7b0 : decide (t428 ≤ (rd l1 x6_1)) = false := decide_eq_false c7
      clear c7
      (first | rw [c7b0] | (simp only [i64_w, i32_w]; first | rw [c7b0]) | skip)
      have H' := Aside0.mk H
      clear H
      go_wp2
      go_roundg k1
      case measure => have := HK1.out; omega
      case rel => exact ⟨(wrap64 (x6_1 + 1)), (fs_), H', ⟨by have := HK1.out; omega⟩, by repeat (first | exact Drawn0.refl _ | apply Drawn0.step)⟩
    ·rw [if_neg c5] at H
     exact absurd H (by simp)
   ·rw [if_neg c4] at H
    have c4b0 : decide (x6_1 < (l1.length : Int)) = false := decide_eq_false c4
    clear c4
    obtain rfl := Option.some.inj H
    go_wp2
    go_ret
    exact ⟨fs_, by repeat (first | exact Drawn0.refl _ | apply Drawn0.step)⟩
/-! ### cr3_Bad: function 16 -/
def cr3_Bad.j0 : Nat → List Int → List Int → Bool → Option (Int)
 | 0, _, _, _ => none
 | k + 1, x1, x2, x16 => if x16 = true then (some 2) else (if (x1.length : Int) > 4096 then (some 4) else (if (x2.length : Int) > 4096 then (some 4) else (some 0)))
def cr3_Bad.f (k : Nat) (a0 : Int) (l1 : List Int) (l2 : List Int) : Option (Int) := (cr1_In.f k a0 l1).bind fun t430 => (if t430 = true then ((cr1_In.f k a0 l2).bind fun t431 => (cr3_Bad.j0 k l1 l2 (!t431))) else (cr3_Bad.j0 k l1 l2 true))
theorem cr3_Bad.mono_l : ∀ k, (∀ y0 y1 y2, LeO (cr3_Bad.j0 k y0 y1 y2) (cr3_Bad.j0 (k + 1) y0 y1 y2))
 | 0 => fun _ _ _ r h => by simp [cr3_Bad.j0] at h
 | k + 1 => by
  have ih0 := cr3_Bad.mono_l k
  ·intro y0 y1 y2
   unfold cr3_Bad.j0
   repeat' first
   | (with_reducible exact ih0 _ _ _)
   | (with_reducible exact cr1_In.mono _ _ _)
   | (with_reducible exact LeO.refl _)
   | (with_reducible exact LeO.none _)
   | (with_reducible refine LeO.ite ?_ ?_)
   | (with_reducible refine LeO.bind ?_ (fun _ => ?_))
   | exact ih0 _ _ _
   | exact cr1_In.mono _ _ _
   | exact LeO.none _
   | refine LeO.ite ?_ ?_
   | refine LeO.bind ?_ (fun _ => ?_)
theorem cr3_Bad.mono : ∀ a0 a1 a2 k, LeO (cr3_Bad.f k a0 a1 a2) (cr3_Bad.f (k + 1) a0 a1 a2) := by
 intro a0 a1 a2 k
 have ih0 := cr3_Bad.mono_l k
 unfold cr3_Bad.f
 repeat' first
   | (with_reducible exact ih0 _ _ _)
   | (with_reducible exact cr1_In.mono _ _ _)
   | (with_reducible exact LeO.refl _)
   | (with_reducible exact LeO.none _)
   | (with_reducible refine LeO.ite ?_ ?_)
   | (with_reducible refine LeO.bind ?_ (fun _ => ?_))
   | exact ih0 _ _ _
   | exact cr1_In.mono _ _ _
   | exact LeO.none _
   | refine LeO.ite ?_ ?_
   | refine LeO.bind ?_ (fun _ => ?_)
set_option maxHeartbeats 8000000 in
set_option maxRecDepth 100000 in
theorem cr3_Bad.calls (k : Nat) (a0 : Int) (A1 : Option Addr) (c1 : Nat) (l1 : List Int) (A2 : Option Addr) (c2 : Nat) (l2 : List Int) (r : Int) (w : World) (hr1 : Kd.C (Kd.int .u64) w A1 l1.length l1) (hc1 : l1.length ≤ c1) (hr2 : Kd.C (Kd.int .u64) w A2 l2.length l2) (hc2 : l2.length ≤ c2) (h : cr3_Bad.f k a0 l1 l2 = some r) :
  Calls Try.prog 16 #[.int .u8 a0, .slice A1 l1.length c1, .slice A2 l2.length c2] w fun e w' => e = .returned (.int .i64 r) ∧ Drawn0 w w' := by
 have HR1 := Aside0.mk hr1
 have HC1 := Aside0.mk hc1
 clear hr1 hc1
 have HR2 := Aside0.mk hr2
 have HC2 := Aside0.mk hc2
 clear hr2 hc2
 have H : ((cr1_In.f k a0 l1).bind fun t430 => (if t430 = true then ((cr1_In.f k a0 l2).bind fun t431 => (cr3_Bad.j0 k l1 l2 (!t431))) else (cr3_Bad.j0 k l1 l2 true))) = some r := h
 clear h
 have HC4 := Aside0.mk H
 clear H
 go_enter Try.func16, Try.ntmps16
 go_upto_region 1 with (fail)
 go_cut [16] (fun v16 wc => ∃ (kq : Nat) (x16_3 : Bool), v16 = .bool x16_3 ∧ Aside0 (cr3_Bad.j0 kq l1 l2 x16_3 = some r) ∧ Aside0 (kq ≤ k) ∧ Drawn0 w wc)
 case first =>
  have H := HC4.out
  clear HC4
  replace H := Option.bind_eq_some_iff.mp H
  obtain ⟨t430, A50, H⟩ := H
  replace H : (if t430 = true then ((cr1_In.f k a0 l2).bind fun t431 => (cr3_Bad.j0 k l1 l2 (!t431))) else (cr3_Bad.j0 k l1 l2 true)) = some r := H
  have A5 := Aside0.mk A50
  clear A50
  by_cases c6 : t430 = true
  ·subst c6
   have H1 : ((cr1_In.f k a0 l2).bind fun t431 => (cr3_Bad.j0 k l1 l2 (!t431))) = some r := by rw [if_pos rfl] at H; exact H
   clear H
   have H := H1
   clear H1
   replace H := Option.bind_eq_some_iff.mp H
   obtain ⟨t431, A70, H⟩ := H
   replace H : (cr3_Bad.j0 k l1 l2 (!t431)) = some r := H
   have A7 := Aside0.mk A70
   clear A70
   have H' := Aside0.mk H
   clear H
   go_wp2_with (first | ((with_reducible refine gate_callee (f := 40) rfl ?_); refine goesM_ (some 9) Try.func40 #[.int .u8 a0, .slice A1 l1.length c1] ?_; (with_reducible refine (cr1_In.calls k a0 _ _ l1 true _ ?side1 ?side2 A5.out).mono ?_); (case side1 => exact nC_ HR1.out); (case side2 => exact HC1.out); rintro e w' ⟨rfl, ⟨nd, rfl⟩⟩; refine ⟨_, rfl, ?_⟩) | (go_at_call 40; (with_reducible refine (cr1_In.calls k a0 _ _ l2 t431 _ ?side1 ?side2 A7.out).mono ?_); (case side1 => exact nC_ HR2.out); (case side2 => exact HC2.out); rintro e w' ⟨rfl, ⟨nd, rfl⟩⟩))
   go_meet
   case rel => exact ⟨_, (!t431), (fs_), H', ⟨fo_⟩, by repeat (first | exact Drawn0.refl _ | apply Drawn0.step)⟩
  ·replace c6 := Bool.eq_false_iff.mpr c6
   subst c6
   have H1 : (cr3_Bad.j0 k l1 l2 true) = some r := by rw [if_neg (show ¬ (false = true) by decide)] at H; exact H
   clear H
   have H := H1
   clear H1
   have H' := Aside0.mk H
   clear H
   go_wp2_with (first | ((with_reducible refine gate_callee (f := 40) rfl ?_); refine goesM_ (some 9) Try.func40 #[.int .u8 a0, .slice A1 l1.length c1] ?_; (with_reducible refine (cr1_In.calls k a0 _ _ l1 false _ ?side1 ?side2 A5.out).mono ?_); (case side1 => exact nC_ HR1.out); (case side2 => exact HC1.out); rintro e w' ⟨rfl, ⟨nd, rfl⟩⟩; refine ⟨_, rfl, ?_⟩))
   go_meet
   case rel => exact ⟨_, (true), (fs_), H', ⟨fo_⟩, by repeat (first | exact Drawn0.refl _ | apply Drawn0.step)⟩
 case rest =>
  clear HC4
  try clear c1
  try clear c2
  try clear p2
  try clear c4
  try clear c6
  obtain ⟨kq, x16_3, rfl, HA, HJ3, ⟨mc3, rfl⟩⟩ := hcut
  cases kq with
  | zero => exact absurd HA.out (by simp [cr3_Bad.j0])
  | succ kj3 =>
   have H := HA.out
   clear HA
   simp only [cr3_Bad.j0] at H
   by_cases c8 : x16_3 = true
   ·subst c8
    have H1 : (some 2) = some r := by rw [if_pos rfl] at H; exact H
    clear H
    have H := H1
    clear H1
    obtain rfl := Option.some.inj H
    go_wp2
    go_ret
    exact ⟨fs_, by repeat (first | exact Drawn0.refl _ | apply Drawn0.step)⟩
   ·replace c8 := Bool.eq_false_iff.mpr c8
    subst c8
    have H1 : (if (l1.length : Int) > 4096 then (some 4) else (if (l2.length : Int) > 4096 then (some 4) else (some 0))) = some r := by rw [if_neg (show ¬ (false = true) by decide)] at H; exact H
    clear H
    have H := H1
    clear H1
    by_cases c9 : (l1.length : Int) > 4096
    ·rw [if_pos c9] at H
     have c9b0 : decide (4096 < (l1.length : Int)) = true := decide_eq_true c9
     have c9b1 : decide (4096 < l1.length) = true := decide_eq_true (by omega)
     clear c9
     obtain rfl := Option.some.inj H
     go_wp2
     go_ret
     exact ⟨fs_, by repeat (first | exact Drawn0.refl _ | apply Drawn0.step)⟩
    ·rw [if_neg c9] at H
     have c9b0 : decide (4096 < (l1.length : Int)) = false := decide_eq_false c9
     have c9b1 : decide (4096 < l1.length) = false := decide_eq_false (by omega)
     clear c9
     by_cases c10 : (l2.length : Int) > 4096
     ·rw [if_pos c10] at H
      have c10b0 : decide (4096 < (l2.length : Int)) = true := decide_eq_true c10
      have c10b1 : decide (4096 < l2.length) = true := decide_eq_true (by omega)
      clear c10
      obtain rfl := Option.some.inj H
      go_wp2
      go_ret
      exact ⟨fs_, by repeat (first | exact Drawn0.refl _ | apply Drawn0.step)⟩
     ·rw [if_neg c10] at H
      have c10b0 : decide (4096 < (l2.length : Int)) = false := decide_eq_false c10
      have c10b1 : decide (4096 < l2.length) = false := decide_eq_false (by omega)
      clear c10
      obtain rfl := Option.some.inj H
      go_wp2
      go_ret
      exact ⟨fs_, by repeat (first | exact Drawn0.refl _ | apply Drawn0.step)⟩
/-! ### conclavelaw05_usual: function 15 -/
def conclavelaw05_usual.f (k : Nat) (a0 : Int) (l1 : List Int) (l2 : List Int) : Option (Int × Bool) := (cr3_Bad.f k a0 l1 l2).bind fun t432 => (if t432 = 0 then (if (l1.length : Int) ≤ 2048 then (some (a0, decide ((l2.length : Int) ≤ 2048))) else (some (a0, false))) else (some (a0, false)))
theorem conclavelaw05_usual.mono : ∀ a0 a1 a2 k, LeO (conclavelaw05_usual.f k a0 a1 a2) (conclavelaw05_usual.f (k + 1) a0 a1 a2) := by
 intro a0 a1 a2 k
 unfold conclavelaw05_usual.f
 repeat' first
   | (with_reducible exact cr3_Bad.mono _ _ _ _)
   | (with_reducible exact LeO.refl _)
   | (with_reducible exact LeO.none _)
   | (with_reducible refine LeO.ite ?_ ?_)
   | (with_reducible refine LeO.bind ?_ (fun _ => ?_))
   | exact cr3_Bad.mono _ _ _ _
   | exact LeO.none _
   | refine LeO.ite ?_ ?_
   | refine LeO.bind ?_ (fun _ => ?_)
set_option maxHeartbeats 8000000 in
set_option maxRecDepth 100000 in
theorem conclavelaw05_usual.calls (k : Nat) (a0 : Int) (A1 : Option Addr) (c1 : Nat) (l1 : List Int) (A2 : Option Addr) (c2 : Nat) (l2 : List Int) (r1 : Int) (r2 : Bool) (w : World) (hr1 : Kd.C (Kd.int .u64) w A1 l1.length l1) (hc1 : l1.length ≤ c1) (hr2 : Kd.C (Kd.int .u64) w A2 l2.length l2) (hc2 : l2.length ≤ c2) (h : conclavelaw05_usual.f k a0 l1 l2 = some (r1, r2)) :
  Calls Try.prog 15 #[.int .u8 a0, .slice A1 l1.length c1, .slice A2 l2.length c2] w fun e w' => e = .returned (.tuple #[.int .u8 r1, .bool r2]) ∧ Drawn0 w w' := by
 have HR1 := Aside0.mk hr1
 have HC1 := Aside0.mk hc1
 clear hr1 hc1
 have HR2 := Aside0.mk hr2
 have HC2 := Aside0.mk hc2
 clear hr2 hc2
 have H : ((cr3_Bad.f k a0 l1 l2).bind fun t432 => (if t432 = 0 then (if (l1.length : Int) ≤ 2048 then (some (a0, decide ((l2.length : Int) ≤ 2048))) else (some (a0, false))) else (some (a0, false)))) = some (r1, r2) := h
 clear h
 replace H := Option.bind_eq_some_iff.mp H
 obtain ⟨t432, A40, H⟩ := H
 replace H : (if t432 = 0 then (if (l1.length : Int) ≤ 2048 then (some (a0, decide ((l2.length : Int) ≤ 2048))) else (some (a0, false))) else (some (a0, false))) = some (r1, r2) := H
 have A4 := Aside0.mk A40
 clear A40
 by_cases c5 : t432 = 0
 ·rw [if_pos c5] at H
  have c5b0 : (t432 == 0) = true := beq_iff_eq.mpr c5
  have c5b1 : (t432 != 0) = false := bne_eq_false_iff_eq.mpr c5
  clear c5
  by_cases c6 : (l1.length : Int) ≤ 2048
  ·rw [if_pos c6] at H
   have c6b0 : decide ((l1.length : Int) ≤ 2048) = true := decide_eq_true c6
   have c6b1 : decide (l1.length ≤ 2048) = true := decide_eq_true (by omega)
   clear c6
   simp only [Option.some.injEq, Prod.mk.injEq] at H
   obtain ⟨rfl, rfl⟩ := H
   go_enter Try.func15, Try.ntmps15
   go_wp2_with (first | ((with_reducible refine gate_callee (f := 16) rfl ?_); refine goesM_ (some 14) Try.func16 #[.int .u8 a0, .slice A1 l1.length c1, .slice A2 l2.length c2] ?_; (with_reducible refine (cr3_Bad.calls k a0 _ _ l1 _ _ l2 t432 _ ?side1 ?side2 ?side3 ?side4 A4.out).mono ?_); (case side1 => exact nC_ HR1.out); (case side2 => exact HC1.out); (case side3 => exact nC_ HR2.out); (case side4 => exact HC2.out); rintro e w' ⟨rfl, ⟨nd, rfl⟩⟩; refine ⟨_, rfl, ?_⟩))
   go_ret2
   exact ⟨fs_, by repeat (first | exact Drawn0.refl _ | apply Drawn0.step)⟩
  ·rw [if_neg c6] at H
   have c6b0 : decide ((l1.length : Int) ≤ 2048) = false := decide_eq_false c6
   have c6b1 : decide (l1.length ≤ 2048) = false := decide_eq_false (by omega)
   clear c6
   simp only [Option.some.injEq, Prod.mk.injEq] at H
   obtain ⟨rfl, rfl⟩ := H
   go_enter Try.func15, Try.ntmps15
   go_wp2_with (first | ((with_reducible refine gate_callee (f := 16) rfl ?_); refine goesM_ (some 14) Try.func16 #[.int .u8 a0, .slice A1 l1.length c1, .slice A2 l2.length c2] ?_; (with_reducible refine (cr3_Bad.calls k a0 _ _ l1 _ _ l2 t432 _ ?side1 ?side2 ?side3 ?side4 A4.out).mono ?_); (case side1 => exact nC_ HR1.out); (case side2 => exact HC1.out); (case side3 => exact nC_ HR2.out); (case side4 => exact HC2.out); rintro e w' ⟨rfl, ⟨nd, rfl⟩⟩; refine ⟨_, rfl, ?_⟩))
   go_ret2
   exact ⟨fs_, by repeat (first | exact Drawn0.refl _ | apply Drawn0.step)⟩
 ·rw [if_neg c5] at H
  have c5b0 : (t432 == 0) = false := beq_eq_false_iff_ne.mpr c5
  have c5b1 : (t432 != 0) = true := bne_iff_ne.mpr c5
  simp only [Option.some.injEq, Prod.mk.injEq] at H
  obtain ⟨rfl, rfl⟩ := H
  go_enter Try.func15, Try.ntmps15
  go_wp2_with (first | ((with_reducible refine gate_callee (f := 16) rfl ?_); refine goesM_ (some 14) Try.func16 #[.int .u8 a0, .slice A1 l1.length c1, .slice A2 l2.length c2] ?_; (with_reducible refine (cr3_Bad.calls k a0 _ _ l1 _ _ l2 t432 _ ?side1 ?side2 ?side3 ?side4 A4.out).mono ?_); (case side1 => exact nC_ HR1.out); (case side2 => exact HC1.out); (case side3 => exact nC_ HR2.out); (case side4 => exact HC2.out); rintro e w' ⟨rfl, ⟨nd, rfl⟩⟩; refine ⟨_, rfl, ?_⟩))
  go_ret2
  exact ⟨fs_, by repeat (first | exact Drawn0.refl _ | apply Drawn0.step)⟩
end Go.Proofs.Yteofgcmgncaojaa.PEuclidInverts
