/- The Go functions as Lean functions, each with the proof that its call comes to just that; written by a program of this session, by the words of the print. -/
import Derived.Test.YteofgcmgncaojaaPEuclidMadex0
import Derived.Test.YteofgcmgncaojaaPEuclidMadex1
import Derived.Test.YteofgcmgncaojaaPEuclidMadex2
import Derived.Test.YteofgcmgncaojaaPEuclidMadex3
import Derived.Test.YteofgcmgncaojaaPEuclidMadex5
import Derived.Test.YteofgcmgncaojaaPEuclidMadex6
import Derived.Test.YteofgcmgncaojaaPEuclidMadex9
namespace Go.Proofs.Yteofgcmgncaojaa.PEuclidMade
open Go.RowKit Go.Proofs.YteofgcmgncaojaaW.PrintWords Go.Proofs.YteofgcmgncaojaaW.PrintLast Go.Proofs.YteofgcmgncaojaaW.PrintMore
attribute [local go_sem] max2_int min2_int max_two min_two max_three min_three max_four min_four   -- for this text's walks alone
set_option linter.unusedVariables false
set_option linter.unusedSimpArgs false
/-! ### euclid_Modulo: function 12 -/
def euclid_Modulo.j0 : Nat → Int → List Int → Int → Bool → List Int → List Int → List Int → Option (List Int × Bool × Int)
 | 0, _, _, _, _, _, _, _ => none
 | k + 1, x0, x2, x8, x52, x419000, x419001, x419002 => if x52 = true then (some (([] : List Int), false, x8)) else (if 0 < (x419000.length : Int) then ((field_Inv.f k x0 (rd x419000 0)).bind fun bt420 => (if bt420.2 = 0 then ((poly_Scale.f k x0 bt420.1 x419002).bind fun bt422 => (if bt422.2 = 0 then ((poly_DivMod.f k x0 bt422.1 x2).bind fun bt426 => (some (bt426.2.1, (bt426.2.2 == 0), bt426.2.2))) else (some (([] : List Int), false, bt422.2)))) else (some (([] : List Int), false, bt420.2)))) else (none))
def euclid_Modulo.f (k : Nat) (a0 : Int) (l1 : List Int) (l2 : List Int) : Option (List Int × Bool × Int) := (euclid_may.f k a0 (([l1, l2] : List (List Int)))).bind fun t399 => (if t399 = 0 then ((poly_Degree.f k l2).bind fun t400 => (if t400 = (-1) then (some (([] : List Int), false, 5)) else (if t400 = 0 then (some (([] : List Int), true, 0)) else ((poly_DivMod.f k a0 l1 l2).bind fun bt401 => (if bt401.2.2 = 0 then ((euclid_partial.f k a0 l2 bt401.2.1 1).bind fun bt408 => (if bt408.2.2.2 = 0 then (euclid_Modulo.j0 k a0 l2 bt408.2.2.2 ((bt408.1.length : Int) == 0) bt408.1 bt408.2.1 bt408.2.2.1) else (euclid_Modulo.j0 k a0 l2 bt408.2.2.2 true bt408.1 bt408.2.1 bt408.2.2.1))) else (some (([] : List Int), false, bt401.2.2))))))) else (some (([] : List Int), false, t399)))
theorem euclid_Modulo.mono_l : ∀ k, (∀ y0 y1 y2 y3 y4 y5 y6, LeO (euclid_Modulo.j0 k y0 y1 y2 y3 y4 y5 y6) (euclid_Modulo.j0 (k + 1) y0 y1 y2 y3 y4 y5 y6))
 | 0 => fun _ _ _ _ _ _ _ r h => by simp [euclid_Modulo.j0] at h
 | k + 1 => by
  have ih0 := euclid_Modulo.mono_l k
  ·intro y0 y1 y2 y3 y4 y5 y6
   unfold euclid_Modulo.j0
   repeat' first
   | (with_reducible exact ih0 _ _ _ _ _ _ _)
   | (with_reducible exact euclid_may.mono _ _ _)
   | (with_reducible exact euclid_partial.mono _ _ _ _ _)
   | (with_reducible exact field_Inv.mono _ _ _)
   | (with_reducible exact poly_Degree.mono _ _)
   | (with_reducible exact poly_DivMod.mono _ _ _ _)
   | (with_reducible exact poly_Scale.mono _ _ _ _)
   | (with_reducible exact LeO.refl _)
   | (with_reducible exact LeO.none _)
   | (with_reducible refine LeO.ite ?_ ?_)
   | (with_reducible refine LeO.bind ?_ (fun _ => ?_))
   | exact ih0 _ _ _ _ _ _ _
   | exact euclid_may.mono _ _ _
   | exact euclid_partial.mono _ _ _ _ _
   | exact field_Inv.mono _ _ _
   | exact poly_Degree.mono _ _
   | exact poly_DivMod.mono _ _ _ _
   | exact poly_Scale.mono _ _ _ _
   | exact LeO.none _
   | refine LeO.ite ?_ ?_
   | refine LeO.bind ?_ (fun _ => ?_)
theorem euclid_Modulo.mono : ∀ a0 a1 a2 k, LeO (euclid_Modulo.f k a0 a1 a2) (euclid_Modulo.f (k + 1) a0 a1 a2) := by
 intro a0 a1 a2 k
 have ih0 := euclid_Modulo.mono_l k
 unfold euclid_Modulo.f
 repeat' first
   | (with_reducible exact ih0 _ _ _ _ _ _ _)
   | (with_reducible exact euclid_may.mono _ _ _)
   | (with_reducible exact euclid_partial.mono _ _ _ _ _)
   | (with_reducible exact field_Inv.mono _ _ _)
   | (with_reducible exact poly_Degree.mono _ _)
   | (with_reducible exact poly_DivMod.mono _ _ _ _)
   | (with_reducible exact poly_Scale.mono _ _ _ _)
   | (with_reducible exact LeO.refl _)
   | (with_reducible exact LeO.none _)
   | (with_reducible refine LeO.ite ?_ ?_)
   | (with_reducible refine LeO.bind ?_ (fun _ => ?_))
   | exact ih0 _ _ _ _ _ _ _
   | exact euclid_may.mono _ _ _
   | exact euclid_partial.mono _ _ _ _ _
   | exact field_Inv.mono _ _ _
   | exact poly_Degree.mono _ _
   | exact poly_DivMod.mono _ _ _ _
   | exact poly_Scale.mono _ _ _ _
   | exact LeO.none _
   | refine LeO.ite ?_ ?_
   | refine LeO.bind ?_ (fun _ => ?_)
set_option maxHeartbeats 8000000 in
set_option maxRecDepth 100000 in
theorem euclid_Modulo.calls (k : Nat) (a0 : Int) (P1_ : Nat → Prop) (A1 : Option Addr) (c1 : Nat) (l1 : List Int) (P2_ : Nat → Prop) (A2 : Option Addr) (c2 : Nat) (l2 : List Int) (r1 : List Int) (r2 : Bool) (r3 : Int) (w : World) (hs1 : Kd.V (Kd.int .u64) 40 w w.heap.size (fun k_ => P1_ k_) (.slice A1 l1.length c1) l1) (hs2 : Kd.V (Kd.int .u64) 40 w w.heap.size (fun k_ => P2_ k_) (.slice A2 l2.length c2) l2) (h : euclid_Modulo.f k a0 l1 l2 = some (r1, r2, r3)) :
  Calls Try.prog 12 #[.int .u8 a0, .slice A1 l1.length c1, .slice A2 l2.length c2] w fun e w' => ∃ v0_ : Value, e = .returned (.tuple #[v0_, .bool r2, .int .i64 r3]) ∧ Kd.R (Kd.int .u64) 40 w' w.heap.size (fun k_ => (w.heap.size ≤ k_)) v0_ r1 ∧ Below w.heap.size w w' := by
 have hu61 := Try.underlying61
 have HO1 := A_ (show Kd.V (Kd.int .u64) 40 w w.heap.size (fun k_ => ((P1_ k_ ∨ P2_ k_) ∨ w.heap.size ≤ k_)) (.slice A1 l1.length c1) l1 from Kd.V_mono hs1 (fun k_ hk => .inl (.inl hk)))
 have HO2 := A_ (show Kd.V (Kd.int .u64) 40 w w.heap.size (fun k_ => ((P1_ k_ ∨ P2_ k_) ∨ w.heap.size ≤ k_)) (.slice A2 l2.length c2) l2 from Kd.V_mono hs2 (fun k_ hk => .inl (.inr hk)))
 have HB := A_ (Below.refl w.heap.size w)
 have H : ((euclid_may.f k a0 (([l1, l2] : List (List Int)))).bind fun t399 => (if t399 = 0 then ((poly_Degree.f k l2).bind fun t400 => (if t400 = (-1) then (some (([] : List Int), false, 5)) else (if t400 = 0 then (some (([] : List Int), true, 0)) else ((poly_DivMod.f k a0 l1 l2).bind fun bt401 => (if bt401.2.2 = 0 then ((euclid_partial.f k a0 l2 bt401.2.1 1).bind fun bt408 => (if bt408.2.2.2 = 0 then (euclid_Modulo.j0 k a0 l2 bt408.2.2.2 ((bt408.1.length : Int) == 0) bt408.1 bt408.2.1 bt408.2.2.1) else (euclid_Modulo.j0 k a0 l2 bt408.2.2.2 true bt408.1 bt408.2.1 bt408.2.2.1))) else (some (([] : List Int), false, bt401.2.2))))))) else (some (([] : List Int), false, t399)))) = some (r1, r2, r3) := h
 clear h
 obtain ⟨y396, hy396⟩ : ∃ y_ : List (List Int), y_ = (([l1, l2] : List (List Int))) := ⟨_, rfl⟩
 replace H : ((euclid_may.f k a0 y396).bind fun t399 => (if t399 = 0 then ((poly_Degree.f k l2).bind fun t400 => (if t400 = (-1) then (some (([] : List Int), false, 5)) else (if t400 = 0 then (some (([] : List Int), true, 0)) else ((poly_DivMod.f k a0 l1 l2).bind fun bt401 => (if bt401.2.2 = 0 then ((euclid_partial.f k a0 l2 bt401.2.1 1).bind fun bt408 => (if bt408.2.2.2 = 0 then (euclid_Modulo.j0 k a0 l2 bt408.2.2.2 ((bt408.1.length : Int) == 0) bt408.1 bt408.2.1 bt408.2.2.1) else (euclid_Modulo.j0 k a0 l2 bt408.2.2.2 true bt408.1 bt408.2.1 bt408.2.2.1))) else (some (([] : List Int), false, bt401.2.2))))))) else (some (([] : List Int), false, t399)))) = some (r1, r2, r3) := by first | (rw [hy396]; with_reducible exact H) | (have H2_ := (Option.bind_some _ _).symm.trans H; rw [hy396]; with_reducible exact H2_) | (have H2_ := (Option.bind_some _ _).symm.trans H; with_reducible exact H2_) | with_reducible exact H | (rw [hy396]; exact H) | exact H
 have Ny396 := Aside0.mk hy396
 clear hy396
 replace H := Option.bind_eq_some_iff.mp H
 obtain ⟨t399, A40, H⟩ := H
 (try dsimp only at H)
 have A4 := Aside0.mk A40
 clear A40
 have HC5 := Aside0.mk H
 clear H
 go_enter Try.func12, Try.ntmps12
 go_upto_if 19 with (first | ((with_reducible refine gate_dst (N := 16) rfl ?_); (try (refine gate_guard (by rfl) ?_; dsimp only)); refine Kd.N_lit (Kd.slice 40 (Kd.int .u64)) _ 22 ?hg (N' := 16) ?hd (xs := ([l1, l2] : List (List Int))) (inner := [.slice A1 l1.length c1, .slice A2 l2.length c2]) (ok := (fun k_ => ((P1_ k_ ∨ P2_ k_) ∨ w.heap.size ≤ k_))) (okp := (fun k_ => ((P1_ k_ ∨ P2_ k_) ∨ w.heap.size ≤ k_))) ?hr ?hp (fun _ hk => hk) ((show ∀ k_, w.heap.size ≤ k_ → (fun k_ => ((P1_ k_ ∨ P2_ k_) ∨ w.heap.size ≤ k_)) k_ from fun k_ hk => (.inr (Nat.le_trans (below_size hb_) hk))) _ (Nat.le_refl _)) (Below.refl _ _) (Nat.le_refl _) (by simp) ?_; (case hd => rfl); (case hg => rfl); (case hr => first | (go_simp; done) | (go_simp; rfl)); (case hp => exact (Reps.one (show Kd.FK (Kd.slice 40 (Kd.int .u64)) _ _ l1 [.slice A1 l1.length c1] from (Kd.FK_slice_mk (Kd.V_reads' (Kd.V_mono (ok' := (fun k_ => ((P1_ k_ ∨ P2_ k_) ∨ w.heap.size ≤ k_))) (HO1.out) (fun k_ hk => hk))).2.1 (Kd.V_F (Kd.V_mono (ok' := (fun k_ => ((P1_ k_ ∨ P2_ k_) ∨ w.heap.size ≤ k_))) (HO1.out) (fun k_ hk => hk))))) (Reps.one (show Kd.FK (Kd.slice 40 (Kd.int .u64)) _ _ l2 [.slice A2 l2.length c2] from (Kd.FK_slice_mk (Kd.V_reads' (Kd.V_mono (ok' := (fun k_ => ((P1_ k_ ∨ P2_ k_) ∨ w.heap.size ≤ k_))) (HO2.out) (fun k_ hk => hk))).2.1 (Kd.V_F (Kd.V_mono (ok' := (fun k_ => ((P1_ k_ ∨ P2_ k_) ∨ w.heap.size ≤ k_))) (HO2.out) (fun k_ hk => hk))))) (Reps.none _ _)))); intro v397 w6 ho7 hb hg_ hnew_; clear hg_ hnew_; (first | rw [← Ny396.out] at ho7 | (simp only [Int.reduceToNat] at ho7; rw [← Ny396.out] at ho7)); have n0_ := A_ (Kd.V_below (nV_ HO1) hb); have n1_ := A_ (Kd.V_below (nV_ HO2) hb); have n2_ := A_ (Kd.N_lower ho7 (below_size hb_)); have n3_ := A_ (below_step hb_ hb); clear HO1 HO2 HB; have HO1 := n0_; have HO2 := n1_; have HO398 := n2_; have HB := n3_; clear n0_ n1_ n2_ n3_; clear hb ho7; obtain ⟨Ao8, co8, eo8⟩ := Kd.N_slice HO398.out; subst eo8) | ((with_reducible refine gate_callee (f := 27) rfl ?_); refine goesM_ (some 17) Try.func27 #[.int .u8 a0, .slice Ao8 y396.length co8] ?_; (with_reducible refine (euclid_may.calls k a0 _ _ y396 t399 _ ?side1 ?side2 A4.out).mono ?_); (case side1 => repeat (first | exact (Kd.N_reads' HO398.out).2.2 | (with_reducible refine Kd.C_alloc ?_ _) | (with_reducible refine Kd.C_drewN ?_ _) | (with_reducible refine Kd.C_drew ?_))); (case side2 => exact (Kd.N_reads' HO398.out).2.1); rintro e w9 ⟨rfl, hb⟩; refine ⟨_, rfl, ?_⟩; have n0_ := A_ (Kd.V_below (nV_ HO1) hb); have n1_ := A_ (Kd.V_below (nV_ HO2) hb); have n2_ := A_ (Kd.N_below (nN_ HO398) hb); have n3_ := A_ (below_step hb_ hb); clear HO1 HO2 HO398 HB; have HO1 := n0_; have HO2 := n1_; have HO398 := n2_; have HB := n3_; clear n0_ n1_ n2_ n3_; (try clear hb)))
 (try simp only [Act.put, List.setIfInBounds_toArray, List.set_cons_zero, List.set_cons_succ])
 have H := HC5.out
 clear HC5
 by_cases c10 : t399 = 0
 ·rw [if_pos c10] at H
  have c10b0 : (t399 == 0) = true := beq_iff_eq.mpr c10
  have c10b1 : (t399 != 0) = false := bne_eq_false_iff_eq.mpr c10
  clear c10
  (first | rw [c10b0] | rw [c10b1] | (simp only [i64_w, i32_w]; first | rw [c10b0] | rw [c10b1]) | skip)
  replace H := Option.bind_eq_some_iff.mp H
  obtain ⟨t400, A110, H⟩ := H
  (try dsimp only at H)
  have A11 := Aside0.mk A110
  clear A110
  have HC12 := Aside0.mk H
  clear H
  go_upto_if 23 with (first | ((with_reducible refine gate_callee (f := 33) rfl ?_); refine goesM_ (some 22) Try.func33 #[.slice A2 l2.length c2] ?_; (with_reducible refine (poly_Degree.calls k _ _ l2 t400 _ ?side1 ?side2 A11.out).mono ?_); (case side1 => repeat (first | exact (Kd.V_reads' HO2.out).2.2 | (with_reducible refine Kd.C_alloc ?_ _) | (with_reducible refine Kd.C_drewN ?_ _) | (with_reducible refine Kd.C_drew ?_))); (case side2 => exact (Kd.V_reads' HO2.out).2.1); rintro e w13 ⟨rfl, hb⟩; refine ⟨_, rfl, ?_⟩; have n0_ := A_ (Kd.V_below (nV_ HO1) hb); have n1_ := A_ (Kd.V_below (nV_ HO2) hb); have n2_ := A_ (Kd.N_below (nN_ HO398) hb); have n3_ := A_ (below_step hb_ hb); clear HO1 HO2 HO398 HB; have HO1 := n0_; have HO2 := n1_; have HO398 := n2_; have HB := n3_; clear n0_ n1_ n2_ n3_; (try clear hb)))
  (try simp only [Act.put, List.setIfInBounds_toArray, List.set_cons_zero, List.set_cons_succ])
  have H := HC12.out
  clear HC12
  by_cases c14 : t400 = (-1)
  ·rw [if_pos c14] at H
   have c14b0 : (t400 == (-1)) = true := beq_iff_eq.mpr c14
   have c14b1 : (t400 != (-1)) = false := bne_eq_false_iff_eq.mpr c14
   clear c14
   (first | rw [c14b0] | rw [c14b1] | (simp only [i64_w, i32_w]; first | rw [c14b0] | rw [c14b1]) | skip)
   simp only [Option.some.injEq, Prod.mk.injEq] at H
   obtain ⟨rfl, rfl, rfl⟩ := H
   go_wp2
   go_ret3
   exact ⟨_, fr_, by first | exact Kd.R_nil _ _ _ _ _ | exact Kd.N_nil _ _ _ _ _ | exact Kd.V_nil _ _ _ _ _ | exact Kd.Q_nil _ _ _ _ _ | exact Kd.S_nil _ _ _ _ _, hb_⟩
  ·rw [if_neg c14] at H
   have c14b0 : (t400 == (-1)) = false := beq_eq_false_iff_ne.mpr c14
   have c14b1 : (t400 != (-1)) = true := bne_iff_ne.mpr c14
   (first | rw [c14b0] | rw [c14b1] | (simp only [i64_w, i32_w]; first | rw [c14b0] | rw [c14b1]) | skip)
   by_cases c15 : t400 = 0
   ·rw [if_pos c15] at H
    have c15b0 : (t400 == 0) = true := beq_iff_eq.mpr c15
    have c15b1 : (t400 != 0) = false := bne_eq_false_iff_eq.mpr c15
    clear c15
    simp only [Option.some.injEq, Prod.mk.injEq] at H
    obtain ⟨rfl, rfl, rfl⟩ := H
    go_wp2
    go_ret3
    exact ⟨_, fr_, by first | exact Kd.R_nil _ _ _ _ _ | exact Kd.N_nil _ _ _ _ _ | exact Kd.V_nil _ _ _ _ _ | exact Kd.Q_nil _ _ _ _ _ | exact Kd.S_nil _ _ _ _ _, hb_⟩
   ·rw [if_neg c15] at H
    have c15b0 : (t400 == 0) = false := beq_eq_false_iff_ne.mpr c15
    have c15b1 : (t400 != 0) = true := bne_iff_ne.mpr c15
    replace H := Option.bind_eq_some_iff.mp H
    obtain ⟨⟨t401, t404, t407⟩, A160, H⟩ := H
    (try dsimp only at H)
    have A16 := Aside0.mk A160
    clear A160
    have HC17 := Aside0.mk H
    clear H
    go_upto_if 36 with (first | ((with_reducible refine gate_callee (f := 29) rfl ?_); refine goesM_ (some 31) Try.func29 #[.int .u8 a0, .slice A1 l1.length c1, .slice A2 l2.length c2] ?_; (with_reducible refine (poly_DivMod.calls k a0 (fun k_ => ((P1_ k_ ∨ P2_ k_) ∨ w.heap.size ≤ k_)) _ _ l1 (fun k_ => ((P1_ k_ ∨ P2_ k_) ∨ w.heap.size ≤ k_)) _ _ l2 t401 t404 t407 _ ?side1 ?side2 A16.out).mono ?_); (case side1 => exact HO1.out); (case side2 => exact HO2.out); rintro e w18 ⟨v402, v405, rfl, ho0, ho1, hb⟩; refine ⟨_, rfl, ?_⟩; have n0_ := A_ (Kd.V_below (nV_ HO1) hb); have n1_ := A_ (Kd.V_below (nV_ HO2) hb); have n2_ := A_ (Kd.N_below (nN_ HO398) hb); have n3_ := A_ (Kd.R_lower (Kd.R_newM (M := fun k_ => (w.heap.size ≤ k_)) (Kd.R_mono (ok' := fun k_ => True) ho0 (fun _ hk_ => trivial)) (below_size hb_) (fun k_ h_ => h_)) (below_size hb_)); have n4_ := A_ (Kd.R_lower (Kd.R_newM (M := fun k_ => (w.heap.size ≤ k_)) (Kd.R_mono (ok' := fun k_ => True) ho1 (fun _ hk_ => trivial)) (below_size hb_) (fun k_ h_ => h_)) (below_size hb_)); have n5_ := A_ (below_step hb_ hb); clear HO1 HO2 HO398 HB; have HO1 := n0_; have HO2 := n1_; have HO398 := n2_; have HO403 := n3_; have HO406 := n4_; have HB := n5_; clear n0_ n1_ n2_ n3_ n4_ n5_; (try clear hb); (try clear ho0); (try clear ho1)))
    (try simp only [Act.put, List.setIfInBounds_toArray, List.set_cons_zero, List.set_cons_succ])
    have H := HC17.out
    clear HC17
    by_cases c19 : t407 = 0
    ·rw [if_pos c19] at H
     have c19b0 : (t407 == 0) = true := beq_iff_eq.mpr c19
     have c19b1 : (t407 != 0) = false := bne_eq_false_iff_eq.mpr c19
     clear c19
     (first | rw [c19b0] | rw [c19b1] | (simp only [i64_w, i32_w]; first | rw [c19b0] | rw [c19b1]) | skip)
     replace H := Option.bind_eq_some_iff.mp H
     obtain ⟨⟨t408, t411, t414, t417⟩, A200, H⟩ := H
     replace H : (if t417 = 0 then (euclid_Modulo.j0 k a0 l2 t417 ((t408.length : Int) == 0) t408 t411 t414) else (euclid_Modulo.j0 k a0 l2 t417 true t408 t411 t414)) = some (r1, r2, r3) := H
     have A20 := Aside0.mk A200
     clear A200
     have HC21 := Aside0.mk H
     clear H
     obtain ⟨Ao22, co22, eo22⟩ := Kd.R_slice HO406.out
     subst eo22
     go_upto_region 13 with (first | ((with_reducible refine gate_callee (f := 34) rfl ?_); refine goesM_ (some 42) Try.func34 #[.int .u8 a0, .slice A2 l2.length c2, .slice Ao22 t404.length co22, .int .i64 1] ?_; (with_reducible refine (euclid_partial.calls k a0 _ _ l2 _ _ t404 1 t408 t411 t414 t417 _ ?side1 ?side2 ?side3 ?side4 A20.out).mono ?_); (case side1 => repeat (first | exact (Kd.V_reads' HO2.out).2.2 | (with_reducible refine Kd.C_alloc ?_ _) | (with_reducible refine Kd.C_drewN ?_ _) | (with_reducible refine Kd.C_drew ?_))); (case side2 => exact (Kd.V_reads' HO2.out).2.1); (case side3 => repeat (first | exact (Kd.R_reads' HO406.out).2.2 | (with_reducible refine Kd.C_alloc ?_ _) | (with_reducible refine Kd.C_drewN ?_ _) | (with_reducible refine Kd.C_drew ?_))); (case side4 => exact (Kd.R_reads' HO406.out).2.1); rintro e w23 ⟨v409, v412, v415, rfl, ho0, ho1, ho2, hb⟩; refine ⟨_, rfl, ?_⟩; have n0_ := A_ (Kd.V_below (nV_ HO1) hb); have n1_ := A_ (Kd.V_below (nV_ HO2) hb); have n2_ := A_ (Kd.N_below (nN_ HO398) hb); have n3_ := A_ (Kd.R_below (nR_ HO403) hb); have n4_ := A_ (Kd.R_below (nR_ HO406) hb); have n5_ := A_ (Kd.R_lower (Kd.R_newM (M := fun k_ => (w.heap.size ≤ k_)) (Kd.R_mono (ok' := fun _ => True) ho0 (fun _ _ => trivial)) (below_size hb_) (fun k_ h_ => h_)) (below_size hb_)); have n6_ := A_ (Kd.R_lower (Kd.R_newM (M := fun k_ => (w.heap.size ≤ k_)) (Kd.R_mono (ok' := fun _ => True) ho1 (fun _ _ => trivial)) (below_size hb_) (fun k_ h_ => h_)) (below_size hb_)); have n7_ := A_ (Kd.R_lower (Kd.R_newM (M := fun k_ => (w.heap.size ≤ k_)) (Kd.R_mono (ok' := fun _ => True) ho2 (fun _ _ => trivial)) (below_size hb_) (fun k_ h_ => h_)) (below_size hb_)); have n8_ := A_ (below_step hb_ hb); clear HO1 HO2 HO398 HO403 HO406 HB; have HO1 := n0_; have HO2 := n1_; have HO398 := n2_; have HO403 := n3_; have HO406 := n4_; have HO410 := n5_; have HO413 := n6_; have HO416 := n7_; have HB := n8_; clear n0_ n1_ n2_ n3_ n4_ n5_ n6_ n7_ n8_; (try clear hb); (try clear ho0); (try clear ho1); (try clear ho2)) | ((with_reducible refine gate_dst (N := 11) rfl ?_); (try (refine gate_guard (by rfl) ?_; dsimp only)); refine box_event ?hg (N := 11) ?hd (cs := #[.slice none 0 0, .slice none 0 0, .slice none 0 0]) (t := 61) ?hr ?_; (case hd => rfl); (case hg => rfl); (case hr => first | (go_simp; done) | (go_simp; rfl)); intro gb418 hg w24 hbox hb; have n0_ := A_ (Kd.V_below (Kd.V_elderB (nV_ HO1) gb418 (Nat.le_of_eq hg.symm)) hb); have n1_ := A_ (Kd.V_below (Kd.V_elderB (nV_ HO2) gb418 (Nat.le_of_eq hg.symm)) hb); have n2_ := A_ (Kd.N_below (Kd.N_elderB (nN_ HO398) gb418 (Nat.le_of_eq hg.symm)) hb); have n3_ := A_ (Kd.R_below (nR_ HO403) hb); have n4_ := A_ (Kd.R_below (nR_ HO406) hb); have n5_ := A_ (Kd.R_below (nR_ HO410) hb); have n6_ := A_ (Kd.R_below (nR_ HO413) hb); have n7_ := A_ (Kd.R_below (nR_ HO416) hb); have n8_ := A_ (below_step hb_ hb); have n9_ := A_ (hbox); have n10_ := A_ ((by rw [hg]; exact (below_size hb_) : w.heap.size ≤ gb418)); have n11_ := A_ ((by rw [hg]; exact (below_size hb_) : w.heap.size ≤ gb418)); clear HO1 HO2 HO398 HO403 HO406 HO410 HO413 HO416 HB; have HO1 := n0_; have HO2 := n1_; have HO398 := n2_; have HO403 := n3_; have HO406 := n4_; have HO410 := n5_; have HO413 := n6_; have HO416 := n7_; have HB := n8_; have BK418 := n9_; have GW418 := n10_; have GE418 := n11_; clear n0_ n1_ n2_ n3_ n4_ n5_ n6_ n7_ n8_ n9_ n10_ n11_; clear hb hbox hg; obtain ⟨Ao25, co25, eo25⟩ := Kd.R_slice HO410.out; subst eo25; have hcz26_0 : w24.cell? ⟨gb418, 0, none⟩ = some (.slice none 0 0) := (blk_cell BK418.out 0).trans rfl; have hcz26_1 : w24.cell? ⟨gb418, 1, none⟩ = some (.slice none 0 0) := (blk_cell BK418.out 1).trans rfl; have hcz26_2 : w24.cell? ⟨gb418, 2, none⟩ = some (.slice none 0 0) := (blk_cell BK418.out 2).trans rfl; have hfz26_0 := blk_frozen BK418.out 0; have hfz26_1 := blk_frozen BK418.out 1; have hfz26_2 := blk_frozen BK418.out 2; obtain ⟨Ao27, co27, eo27⟩ := Kd.R_slice HO413.out; subst eo27; obtain ⟨Ao28, co28, eo28⟩ := Kd.R_slice HO416.out; subst eo28))
     (try simp only [Act.put, List.setIfInBounds_toArray, List.set_cons_zero, List.set_cons_succ])
     go_cut [52] (fun v52 wc => ∃ (kq : Nat) (x52_20 : Bool), v52 = .bool x52_20 ∧ Aside0 (euclid_Modulo.j0 kq a0 l2 t417 x52_20 t408 t411 t414 = some (r1, r2, r3)) ∧ Aside0 (kq ≤ k) ∧ Aside0 (Kd.V (Kd.int .u64) 40 wc w.heap.size (fun k_ => ((P1_ k_ ∨ P2_ k_) ∨ w.heap.size ≤ k_) ∧ k_ ≠ gb418) (.slice A2 l2.length c2) l2) ∧ Aside0 (Kd.R (Kd.int .u64) 40 wc w.heap.size (fun k_ => (w.heap.size ≤ k_)) (.slice Ao25 t408.length co25) t408) ∧ Aside0 (Kd.R (Kd.int .u64) 40 wc w.heap.size (fun k_ => (w.heap.size ≤ k_)) (.slice Ao27 t411.length co27) t411) ∧ Aside0 (Kd.R (Kd.int .u64) 40 wc w.heap.size (fun k_ => (w.heap.size ≤ k_)) (.slice Ao28 t414.length co28) t414) ∧ Aside0 (wc.heap[gb418]? = some (.cells #[(.slice Ao25 t408.length co25), (.slice Ao27 t411.length co27), (.slice Ao28 t414.length co28)] 61 (0, 0))) ∧ Aside0 (Below w.heap.size w wc))
     case first =>
      have H := HC21.out
      clear HC21
      by_cases c29 : t417 = 0
      ·rw [if_pos c29] at H
       have c29b0 : (t417 == 0) = true := beq_iff_eq.mpr c29
       have c29b1 : (t417 != 0) = false := bne_eq_false_iff_eq.mpr c29
       clear c29
       (first | rw [c29b0] | rw [c29b1] | (simp only [i64_w, i32_w]; first | rw [c29b0] | rw [c29b1]) | skip)
       have H' := Aside0.mk H
       clear H
       have hcz30_0 : w24.cell? ⟨gb418, 0, none⟩ = some (.slice none 0 0) := (blk_cell BK418.out 0).trans rfl
       have hcz30_1 : w24.cell? ⟨gb418, 1, none⟩ = some (.slice none 0 0) := (blk_cell BK418.out 1).trans rfl
       have hcz30_2 : w24.cell? ⟨gb418, 2, none⟩ = some (.slice none 0 0) := (blk_cell BK418.out 2).trans rfl
       have hfz30_0 := blk_frozen BK418.out 0
       have hfz30_1 := blk_frozen BK418.out 1
       have hfz30_2 := blk_frozen BK418.out 2
       go_wp2
       go_meet
       case rel => exact ⟨_, (((t408.length : Int) == 0)), (fs_), H', ⟨fo_⟩, ⟨by (with_reducible repeat (first | apply Kd.V_alloc | apply Kd.V_drewN | apply Kd.V_drew)); exact Kd.V_mono (Kd.V_far (p := ⟨gb418, 2, none⟩) (Kd.V_far (p := ⟨gb418, 1, none⟩) (Kd.V_far (p := ⟨gb418, 0, none⟩) (Kd.V_mono HO2.out (fun k_ hk => (⟨hk, hk.2⟩ : _ ∧ k_ ≠ gb418))) (fun _ hk => hk.2) (.slice Ao25 t408.length co25)) (fun _ hk => hk.2) (.slice Ao27 t411.length co27)) (fun _ hk => hk.2) (.slice Ao28 t414.length co28)) (fun _ hk => ⟨hk.1.1, hk.1.2⟩)⟩, ⟨by (with_reducible repeat (first | apply Kd.R_alloc | apply Kd.R_drewN | apply Kd.R_drew)); exact Kd.R_mono (Kd.R_far (p := ⟨gb418, 2, none⟩) (Kd.R_far (p := ⟨gb418, 1, none⟩) (Kd.R_far (p := ⟨gb418, 0, none⟩) (Kd.R_types HO410.out BK418.out (by decide)) (fun _ hk => hk.2) (.slice Ao25 t408.length co25)) (fun _ hk => hk.2) (.slice Ao27 t411.length co27)) (fun _ hk => hk.2) (.slice Ao28 t414.length co28)) (fun _ hk => hk.1.1)⟩, ⟨by (with_reducible repeat (first | apply Kd.R_alloc | apply Kd.R_drewN | apply Kd.R_drew)); exact Kd.R_mono (Kd.R_far (p := ⟨gb418, 2, none⟩) (Kd.R_far (p := ⟨gb418, 1, none⟩) (Kd.R_far (p := ⟨gb418, 0, none⟩) (Kd.R_types HO413.out BK418.out (by decide)) (fun _ hk => hk.2) (.slice Ao25 t408.length co25)) (fun _ hk => hk.2) (.slice Ao27 t411.length co27)) (fun _ hk => hk.2) (.slice Ao28 t414.length co28)) (fun _ hk => hk.1.1)⟩, ⟨by (with_reducible repeat (first | apply Kd.R_alloc | apply Kd.R_drewN | apply Kd.R_drew)); exact Kd.R_mono (Kd.R_far (p := ⟨gb418, 2, none⟩) (Kd.R_far (p := ⟨gb418, 1, none⟩) (Kd.R_far (p := ⟨gb418, 0, none⟩) (Kd.R_types HO416.out BK418.out (by decide)) (fun _ hk => hk.2) (.slice Ao25 t408.length co25)) (fun _ hk => hk.2) (.slice Ao27 t411.length co27)) (fun _ hk => hk.2) (.slice Ao28 t414.length co28)) (fun _ hk => hk.1.1)⟩, ⟨by (with_reducible repeat (first | refine blk_drewN ?_ _ | refine blk_drew ?_ | refine blk_alloc ?_ _)); refine blk_put (cs := #[.slice Ao25 t408.length co25, .slice Ao27 t411.length co27, .slice none 0 0]) ?_ 2 _ rfl; (with_reducible repeat (first | refine blk_drewN ?_ _ | refine blk_drew ?_ | refine blk_alloc ?_ _)); refine blk_put (cs := #[.slice Ao25 t408.length co25, .slice none 0 0, .slice none 0 0]) ?_ 1 _ rfl; (with_reducible repeat (first | refine blk_drewN ?_ _ | refine blk_drew ?_ | refine blk_alloc ?_ _)); refine blk_put (cs := #[.slice none 0 0, .slice none 0 0, .slice none 0 0]) ?_ 0 _ rfl; (with_reducible repeat (first | refine blk_drewN ?_ _ | refine blk_drew ?_ | refine blk_alloc ?_ _)); exact BK418.out⟩, ⟨hs_⟩⟩
      ·rw [if_neg c29] at H
       have c29b0 : (t417 == 0) = false := beq_eq_false_iff_ne.mpr c29
       have c29b1 : (t417 != 0) = true := bne_iff_ne.mpr c29
       (first | rw [c29b0] | rw [c29b1] | (simp only [i64_w, i32_w]; first | rw [c29b0] | rw [c29b1]) | skip)
       have H' := Aside0.mk H
       clear H
       go_wp2
       go_meet
       case rel => exact ⟨_, (true), (fs_), H', ⟨fo_⟩, ⟨by (with_reducible repeat (first | apply Kd.V_alloc | apply Kd.V_drewN | apply Kd.V_drew)); exact Kd.V_mono (Kd.V_far (p := ⟨gb418, 2, none⟩) (Kd.V_far (p := ⟨gb418, 1, none⟩) (Kd.V_far (p := ⟨gb418, 0, none⟩) (Kd.V_mono HO2.out (fun k_ hk => (⟨hk, hk.2⟩ : _ ∧ k_ ≠ gb418))) (fun _ hk => hk.2) (.slice Ao25 t408.length co25)) (fun _ hk => hk.2) (.slice Ao27 t411.length co27)) (fun _ hk => hk.2) (.slice Ao28 t414.length co28)) (fun _ hk => ⟨hk.1.1, hk.1.2⟩)⟩, ⟨by (with_reducible repeat (first | apply Kd.R_alloc | apply Kd.R_drewN | apply Kd.R_drew)); exact Kd.R_mono (Kd.R_far (p := ⟨gb418, 2, none⟩) (Kd.R_far (p := ⟨gb418, 1, none⟩) (Kd.R_far (p := ⟨gb418, 0, none⟩) (Kd.R_types HO410.out BK418.out (by decide)) (fun _ hk => hk.2) (.slice Ao25 t408.length co25)) (fun _ hk => hk.2) (.slice Ao27 t411.length co27)) (fun _ hk => hk.2) (.slice Ao28 t414.length co28)) (fun _ hk => hk.1.1)⟩, ⟨by (with_reducible repeat (first | apply Kd.R_alloc | apply Kd.R_drewN | apply Kd.R_drew)); exact Kd.R_mono (Kd.R_far (p := ⟨gb418, 2, none⟩) (Kd.R_far (p := ⟨gb418, 1, none⟩) (Kd.R_far (p := ⟨gb418, 0, none⟩) (Kd.R_types HO413.out BK418.out (by decide)) (fun _ hk => hk.2) (.slice Ao25 t408.length co25)) (fun _ hk => hk.2) (.slice Ao27 t411.length co27)) (fun _ hk => hk.2) (.slice Ao28 t414.length co28)) (fun _ hk => hk.1.1)⟩, ⟨by (with_reducible repeat (first | apply Kd.R_alloc | apply Kd.R_drewN | apply Kd.R_drew)); exact Kd.R_mono (Kd.R_far (p := ⟨gb418, 2, none⟩) (Kd.R_far (p := ⟨gb418, 1, none⟩) (Kd.R_far (p := ⟨gb418, 0, none⟩) (Kd.R_types HO416.out BK418.out (by decide)) (fun _ hk => hk.2) (.slice Ao25 t408.length co25)) (fun _ hk => hk.2) (.slice Ao27 t411.length co27)) (fun _ hk => hk.2) (.slice Ao28 t414.length co28)) (fun _ hk => hk.1.1)⟩, ⟨by (with_reducible repeat (first | refine blk_drewN ?_ _ | refine blk_drew ?_ | refine blk_alloc ?_ _)); refine blk_put (cs := #[.slice Ao25 t408.length co25, .slice Ao27 t411.length co27, .slice none 0 0]) ?_ 2 _ rfl; (with_reducible repeat (first | refine blk_drewN ?_ _ | refine blk_drew ?_ | refine blk_alloc ?_ _)); refine blk_put (cs := #[.slice Ao25 t408.length co25, .slice none 0 0, .slice none 0 0]) ?_ 1 _ rfl; (with_reducible repeat (first | refine blk_drewN ?_ _ | refine blk_drew ?_ | refine blk_alloc ?_ _)); refine blk_put (cs := #[.slice none 0 0, .slice none 0 0, .slice none 0 0]) ?_ 0 _ rfl; (with_reducible repeat (first | refine blk_drewN ?_ _ | refine blk_drew ?_ | refine blk_alloc ?_ _)); exact BK418.out⟩, ⟨hs_⟩⟩
     case rest =>
      clear HC21
      try clear c1
      try clear c2
      try clear p2
      try clear c3
      try clear c10
      try clear c10b0
      try clear c10b1
      try clear c12
      try clear c14
      try clear c14b0
      try clear c14b1
      try clear c15
      try clear c15b0
      try clear c15b1
      try clear c19
      try clear c19b0
      try clear c19b1
      try clear c27
      try clear c29
      try clear c29b0
      try clear c29b1
      try clear hcz26_0
      try clear hcz26_1
      try clear hcz26_2
      try clear hcz30_0
      try clear hcz30_1
      try clear hcz30_2
      try clear hfz26_0
      try clear hfz26_1
      try clear hfz26_2
      try clear hfz30_0
      try clear hfz30_1
      try clear hfz30_2
      obtain ⟨kq, x52_20, rfl, HA, HJ20, HO_2, HO_419000, HO_419001, HO_419002, BK418, HB⟩ := hcut
      cases kq with
      | zero => exact absurd HA.out (by simp [euclid_Modulo.j0])
      | succ kj20 =>
       have H := HA.out
       clear HA
       simp only [euclid_Modulo.j0] at H
       by_cases c31 : x52_20 = true
       ·subst c31
        have H1 : (some (([] : List Int), false, t417)) = some (r1, r2, r3) := by rw [if_pos rfl] at H; exact H
        clear H
        have H := H1
        clear H1
        simp only [Option.some.injEq, Prod.mk.injEq] at H
        obtain ⟨rfl, rfl, rfl⟩ := H
        go_wp2
        go_ret3
        exact ⟨_, fr_, by first | exact Kd.R_nil _ _ _ _ _ | exact Kd.N_nil _ _ _ _ _ | exact Kd.V_nil _ _ _ _ _ | exact Kd.Q_nil _ _ _ _ _ | exact Kd.S_nil _ _ _ _ _, hs_⟩
       ·replace c31 := Bool.eq_false_iff.mpr c31
        subst c31
        have H1 : (if 0 < (t408.length : Int) then ((field_Inv.f kj20 a0 (rd t408 0)).bind fun bt420 => (if bt420.2 = 0 then ((poly_Scale.f kj20 a0 bt420.1 t414).bind fun bt422 => (if bt422.2 = 0 then ((poly_DivMod.f kj20 a0 bt422.1 l2).bind fun bt426 => (some (bt426.2.1, (bt426.2.2 == 0), bt426.2.2))) else (some (([] : List Int), false, bt422.2)))) else (some (([] : List Int), false, bt420.2)))) else (none)) = some (r1, r2, r3) := by rw [if_neg (show ¬ (false = true) by decide)] at H; exact H
        clear H
        have H := H1
        clear H1
        by_cases c32 : 0 < (t408.length : Int)
        ·rw [if_pos c32] at H
         have c32b0 : decide (0 < (t408.length : Int)) = true := decide_eq_true c32
         have c32b1 : decide (0 < t408.length) = true := decide_eq_true (by omega)
         clear c32
         replace H := Option.bind_eq_some_iff.mp H
         obtain ⟨⟨t420, t421⟩, A330, H⟩ := H
         replace H : (if t421 = 0 then ((poly_Scale.f kj20 a0 t420 t414).bind fun bt422 => (if bt422.2 = 0 then ((poly_DivMod.f kj20 a0 bt422.1 l2).bind fun bt426 => (some (bt426.2.1, (bt426.2.2 == 0), bt426.2.2))) else (some (([] : List Int), false, bt422.2)))) else (some (([] : List Int), false, t421))) = some (r1, r2, r3) := H
         have A33 := Aside0.mk A330
         clear A330
         have HC34 := Aside0.mk H
         clear H
         have hcz35_0 : wc.cell? ⟨gb418, 0, none⟩ = some (.slice Ao25 t408.length co25) := (blk_cell BK418.out 0).trans rfl
         have hcz35_1 : wc.cell? ⟨gb418, 1, none⟩ = some (.slice Ao27 t411.length co27) := (blk_cell BK418.out 1).trans rfl
         have hcz35_2 : wc.cell? ⟨gb418, 2, none⟩ = some (.slice Ao28 t414.length co28) := (blk_cell BK418.out 2).trans rfl
         have hfz35_0 := blk_frozen BK418.out 0
         have hfz35_1 := blk_frozen BK418.out 1
         have hfz35_2 := blk_frozen BK418.out 2
         have p419 : 0 ≤ (0 : Int) := (by omega)
         have q419 : 0 < (t408.length : Int) := of_decide_eq_true (by first | (with_reducible assumption) | assumption)
         obtain ⟨ad419, e419, hx419_0⟩ := Kd.at_int (Kd.R_reads' HO_419000.out).2.2 0 p419 q419
         cases e419
         have qi419 : (0 < t408.length) = True := eq_true (by omega)
         (try rw [show ((0 : Int)).toNat = 0 from rfl] at hx419_0)
         (try rw [Addr.add_zero'] at hx419_0)
         replace p419 := eq_true p419
         replace q419 := eq_true q419
         go_upto_if 64 with (first | ((with_reducible refine gate_callee (f := 35) rfl ?_); refine goesM_ (some 60) Try.func35 #[.int .u8 a0, .int .u64 (rd t408 0)] ?_; (with_reducible refine (field_Inv.calls kj20 a0 (rd t408 0) t420 t421 _ A33.out).mono ?_); rintro e w36 ⟨rfl, hb⟩; refine ⟨_, rfl, ?_⟩; have n0_ := A_ (Kd.V_below (nV_ HO_2) hb); have n1_ := A_ (Kd.R_below (nR_ HO_419000) hb); have n2_ := A_ (Kd.R_below (nR_ HO_419001) hb); have n3_ := A_ (Kd.R_below (nR_ HO_419002) hb); have n4_ := A_ (blk_below (g := gb418) (o := .cells #[.slice (some ad419) t408.length co25, .slice Ao27 t411.length co27, .slice Ao28 t414.length co28] 61 (0, 0)) (nb_ BK418) hb); have n5_ := A_ (below_step hs_ hb); clear HO_2 HO_419000 HO_419001 HO_419002 BK418 HB; have HO_2 := n0_; have HO_419000 := n1_; have HO_419001 := n2_; have HO_419002 := n3_; have BK418 := n4_; have HB := n5_; clear n0_ n1_ n2_ n3_ n4_ n5_; (try clear hb)))
         (try simp only [Act.put, List.setIfInBounds_toArray, List.set_cons_zero, List.set_cons_succ])
         have H := HC34.out
         clear HC34
         by_cases c37 : t421 = 0
         ·rw [if_pos c37] at H
          have c37b0 : (t421 == 0) = true := beq_iff_eq.mpr c37
          have c37b1 : (t421 != 0) = false := bne_eq_false_iff_eq.mpr c37
          clear c37
          (first | rw [c37b0] | rw [c37b1] | (simp only [i64_w, i32_w]; first | rw [c37b0] | rw [c37b1]) | skip)
          replace H := Option.bind_eq_some_iff.mp H
          obtain ⟨⟨t422, t423⟩, A380, H⟩ := H
          replace H : (if t423 = 0 then ((poly_DivMod.f kj20 a0 t422 l2).bind fun bt426 => (some (bt426.2.1, (bt426.2.2 == 0), bt426.2.2))) else (some (([] : List Int), false, t423))) = some (r1, r2, r3) := H
          have A38 := Aside0.mk A380
          clear A380
          have HC39 := Aside0.mk H
          clear H
          have hcz40_0 : w36.cell? ⟨gb418, 0, none⟩ = some (.slice (some ad419) t408.length co25) := (blk_cell BK418.out 0).trans rfl
          have hcz40_1 : w36.cell? ⟨gb418, 1, none⟩ = some (.slice Ao27 t411.length co27) := (blk_cell BK418.out 1).trans rfl
          have hcz40_2 : w36.cell? ⟨gb418, 2, none⟩ = some (.slice Ao28 t414.length co28) := (blk_cell BK418.out 2).trans rfl
          have hfz40_0 := blk_frozen BK418.out 0
          have hfz40_1 := blk_frozen BK418.out 1
          have hfz40_2 := blk_frozen BK418.out 2
          go_upto_if 75 with (first | ((with_reducible refine gate_callee (f := 36) rfl ?_); refine goesM_ (some 71) Try.func36 #[.int .u8 a0, .int .u64 t420, .slice Ao28 t414.length co28] ?_; (with_reducible refine (poly_Scale.calls kj20 a0 t420 _ _ t414 t422 t423 _ ?side1 ?side2 A38.out).mono ?_); (case side1 => repeat (first | exact (Kd.R_reads' HO_419002.out).2.2 | (with_reducible refine Kd.C_alloc ?_ _) | (with_reducible refine Kd.C_drewN ?_ _) | (with_reducible refine Kd.C_drew ?_))); (case side2 => exact (Kd.R_reads' HO_419002.out).2.1); rintro e w41 ⟨v424, rfl, ho0, hb⟩; refine ⟨_, rfl, ?_⟩; have n0_ := A_ (Kd.V_below (nV_ HO_2) hb); have n1_ := A_ (Kd.R_below (nR_ HO_419000) hb); have n2_ := A_ (Kd.R_below (nR_ HO_419001) hb); have n3_ := A_ (Kd.R_below (nR_ HO_419002) hb); have n4_ := A_ (Kd.R_lower (Kd.R_newM (M := fun k_ => (w.heap.size ≤ k_)) (Kd.R_mono (ok' := fun _ => True) ho0 (fun _ _ => trivial)) (below_size hs_) (fun k_ h_ => h_)) (below_size hs_)); have n5_ := A_ (blk_below (g := gb418) (o := .cells #[.slice (some ad419) t408.length co25, .slice Ao27 t411.length co27, .slice Ao28 t414.length co28] 61 (0, 0)) (nb_ BK418) hb); have n6_ := A_ (below_step hs_ hb); clear HO_2 HO_419000 HO_419001 HO_419002 BK418 HB; have HO_2 := n0_; have HO_419000 := n1_; have HO_419001 := n2_; have HO_419002 := n3_; have HO425 := n4_; have BK418 := n5_; have HB := n6_; clear n0_ n1_ n2_ n3_ n4_ n5_ n6_; (try clear hb); (try clear ho0)))
          (try simp only [Act.put, List.setIfInBounds_toArray, List.set_cons_zero, List.set_cons_succ])
          have H := HC39.out
          clear HC39
          by_cases c42 : t423 = 0
          ·rw [if_pos c42] at H
           have c42b0 : (t423 == 0) = true := beq_iff_eq.mpr c42
           have c42b1 : (t423 != 0) = false := bne_eq_false_iff_eq.mpr c42
           clear c42
           (first | rw [c42b0] | rw [c42b1] | (simp only [i64_w, i32_w]; first | rw [c42b0] | rw [c42b1]) | skip)
           replace H := Option.bind_eq_some_iff.mp H
           obtain ⟨⟨t426, t429, t432⟩, A430, H⟩ := H
           replace H : (some (t429, (t432 == 0), t432)) = some (r1, r2, r3) := H
           have A43 := Aside0.mk A430
           clear A430
           simp only [Option.some.injEq, Prod.mk.injEq] at H
           obtain ⟨rfl, rfl, rfl⟩ := H
           obtain ⟨Ao44, co44, eo44⟩ := Kd.R_slice HO425.out
           subst eo44
           go_wp2_with (first | ((with_reducible refine gate_callee (f := 29) rfl ?_); refine goesM_ (some 81) Try.func29 #[.int .u8 a0, .slice Ao44 t422.length co44, .slice A2 l2.length c2] ?_; (with_reducible refine (poly_DivMod.calls kj20 a0 (fun k_ => some k_ = (.slice Ao44 t422.length co44 : Value).ownBlock) _ _ t422 (fun k_ => (((P1_ k_ ∨ P2_ k_) ∨ w.heap.size ≤ k_) ∧ k_ ≠ gb418)) _ _ l2 t426 t429 t432 _ ?side1 ?side2 A43.out).mono ?_); (case side1 => exact Kd.R_V (Kd.R_tight rfl (HO425.out))); (case side2 => exact HO_2.out); rintro e w45 ⟨v427, v430, rfl, ho0, ho1, hb⟩; refine ⟨_, rfl, ?_⟩; have n0_ := A_ (Kd.V_below (nV_ HO_2) hb); have n1_ := A_ (Kd.R_below (nR_ HO_419000) hb); have n2_ := A_ (Kd.R_below (nR_ HO_419001) hb); have n3_ := A_ (Kd.R_below (nR_ HO_419002) hb); have n4_ := A_ (Kd.R_below (nR_ HO425) hb); have n5_ := A_ (Kd.R_lower (Kd.R_newM (M := fun k_ => (w.heap.size ≤ k_)) (Kd.R_mono (ok' := fun k_ => True) ho0 (fun _ hk_ => trivial)) (below_size hs_) (fun k_ h_ => h_)) (below_size hs_)); have n6_ := A_ (Kd.R_lower (Kd.R_newM (M := fun k_ => (w.heap.size ≤ k_)) (Kd.R_mono (ok' := fun k_ => True) ho1 (fun _ hk_ => trivial)) (below_size hs_) (fun k_ h_ => h_)) (below_size hs_)); have n7_ := A_ (blk_below (g := gb418) (o := .cells #[.slice (some ad419) t408.length co25, .slice Ao27 t411.length co27, .slice Ao28 t414.length co28] 61 (0, 0)) (nb_ BK418) hb); have n8_ := A_ (below_step hs_ hb); clear HO_2 HO_419000 HO_419001 HO_419002 HO425 BK418 HB; have HO_2 := n0_; have HO_419000 := n1_; have HO_419001 := n2_; have HO_419002 := n3_; have HO425 := n4_; have HO428 := n5_; have HO431 := n6_; have BK418 := n7_; have HB := n8_; clear n0_ n1_ n2_ n3_ n4_ n5_ n6_ n7_ n8_; (try clear hb); (try clear ho0); (try clear ho1)))
           go_ret3
           exact ⟨_, fr_, by (with_reducible repeat (first | apply Kd.R_alloc | apply Kd.R_drewN | apply Kd.R_drew)); exact Kd.R_mono HO431.out (fun _ hk => hk.1), hs_⟩
          ·rw [if_neg c42] at H
           have c42b0 : (t423 == 0) = false := beq_eq_false_iff_ne.mpr c42
           have c42b1 : (t423 != 0) = true := bne_iff_ne.mpr c42
           (first | rw [c42b0] | rw [c42b1] | (simp only [i64_w, i32_w]; first | rw [c42b0] | rw [c42b1]) | skip)
           simp only [Option.some.injEq, Prod.mk.injEq] at H
           obtain ⟨rfl, rfl, rfl⟩ := H
           go_wp2
           go_ret3
           exact ⟨_, fr_, by first | exact Kd.R_nil _ _ _ _ _ | exact Kd.N_nil _ _ _ _ _ | exact Kd.V_nil _ _ _ _ _ | exact Kd.Q_nil _ _ _ _ _ | exact Kd.S_nil _ _ _ _ _, hs_⟩
         ·rw [if_neg c37] at H
          have c37b0 : (t421 == 0) = false := beq_eq_false_iff_ne.mpr c37
          have c37b1 : (t421 != 0) = true := bne_iff_ne.mpr c37
          (first | rw [c37b0] | rw [c37b1] | (simp only [i64_w, i32_w]; first | rw [c37b0] | rw [c37b1]) | skip)
          simp only [Option.some.injEq, Prod.mk.injEq] at H
          obtain ⟨rfl, rfl, rfl⟩ := H
          go_wp2
          go_ret3
          exact ⟨_, fr_, by first | exact Kd.R_nil _ _ _ _ _ | exact Kd.N_nil _ _ _ _ _ | exact Kd.V_nil _ _ _ _ _ | exact Kd.Q_nil _ _ _ _ _ | exact Kd.S_nil _ _ _ _ _, hs_⟩
        ·rw [if_neg c32] at H
         exact absurd H (by simp)
    ·rw [if_neg c19] at H
     have c19b0 : (t407 == 0) = false := beq_eq_false_iff_ne.mpr c19
     have c19b1 : (t407 != 0) = true := bne_iff_ne.mpr c19
     (first | rw [c19b0] | rw [c19b1] | (simp only [i64_w, i32_w]; first | rw [c19b0] | rw [c19b1]) | skip)
     simp only [Option.some.injEq, Prod.mk.injEq] at H
     obtain ⟨rfl, rfl, rfl⟩ := H
     go_wp2
     go_ret3
     exact ⟨_, fr_, by first | exact Kd.R_nil _ _ _ _ _ | exact Kd.N_nil _ _ _ _ _ | exact Kd.V_nil _ _ _ _ _ | exact Kd.Q_nil _ _ _ _ _ | exact Kd.S_nil _ _ _ _ _, hb_⟩
 ·rw [if_neg c10] at H
  have c10b0 : (t399 == 0) = false := beq_eq_false_iff_ne.mpr c10
  have c10b1 : (t399 != 0) = true := bne_iff_ne.mpr c10
  (first | rw [c10b0] | rw [c10b1] | (simp only [i64_w, i32_w]; first | rw [c10b0] | rw [c10b1]) | skip)
  simp only [Option.some.injEq, Prod.mk.injEq] at H
  obtain ⟨rfl, rfl, rfl⟩ := H
  go_wp2
  go_ret3
  exact ⟨_, fr_, by first | exact Kd.R_nil _ _ _ _ _ | exact Kd.N_nil _ _ _ _ _ | exact Kd.V_nil _ _ _ _ _ | exact Kd.Q_nil _ _ _ _ _ | exact Kd.S_nil _ _ _ _ _, hb_⟩
/-! ### conclavelaw05_anchored: function 17 -/
def conclavelaw05_anchored.f (k : Nat)  : Option (Bool) := (euclid_GCD.f k 1 (([2013265920, 0, 1] : List Int)) (([2, 2] : List Int))).bind fun bt439 => ((euclid_Modulo.f k 1 (([2] : List Int)) (([0, 1] : List Int))).bind fun bt449 => (if bt439.2 = 0 then (if bt449.2.2 = 0 then (if bt449.2.1 = true then ((cr1_Same.f k bt439.1 (([1, 1] : List Int))).bind fun t457 => (if t457 = true then ((cr1_Same.f k bt449.1 (([1006632961] : List Int))).bind fun t461 => (some t461)) else (none))) else (none)) else (none)) else (none)))
theorem conclavelaw05_anchored.mono : ∀ k, LeO (conclavelaw05_anchored.f k ) (conclavelaw05_anchored.f (k + 1) ) := by
 intro  k
 unfold conclavelaw05_anchored.f
 repeat' first
   | (with_reducible exact cr1_Same.mono _ _ _)
   | (with_reducible exact euclid_GCD.mono _ _ _ _)
   | (with_reducible exact euclid_Modulo.mono _ _ _ _)
   | (with_reducible exact LeO.refl _)
   | (with_reducible exact LeO.none _)
   | (with_reducible refine LeO.ite ?_ ?_)
   | (with_reducible refine LeO.bind ?_ (fun _ => ?_))
   | exact cr1_Same.mono _ _ _
   | exact euclid_GCD.mono _ _ _ _
   | exact euclid_Modulo.mono _ _ _ _
   | exact LeO.none _
   | refine LeO.ite ?_ ?_
   | refine LeO.bind ?_ (fun _ => ?_)
set_option maxHeartbeats 8000000 in
set_option maxRecDepth 100000 in
theorem conclavelaw05_anchored.calls (k : Nat)  (r : Bool) (w : World) (h : conclavelaw05_anchored.f k  = some r) :
  Calls Try.prog 17 #[] w fun e w' => e = .returned (.bool r) ∧ Below w.heap.size w w' := by
 have HB := A_ (Below.refl w.heap.size w)
 have H : ((euclid_GCD.f k 1 (([2013265920, 0, 1] : List Int)) (([2, 2] : List Int))).bind fun bt439 => ((euclid_Modulo.f k 1 (([2] : List Int)) (([0, 1] : List Int))).bind fun bt449 => (if bt439.2 = 0 then (if bt449.2.2 = 0 then (if bt449.2.1 = true then ((cr1_Same.f k bt439.1 (([1, 1] : List Int))).bind fun t457 => (if t457 = true then ((cr1_Same.f k bt449.1 (([1006632961] : List Int))).bind fun t461 => (some t461)) else (none))) else (none)) else (none)) else (none)))) = some r := h
 clear h
 obtain ⟨y433, hy433⟩ : ∃ y_ : List Int, y_ = (([2013265920, 0, 1] : List Int)) := ⟨_, rfl⟩
 replace H : ((euclid_GCD.f k 1 y433 (([2, 2] : List Int))).bind fun bt439 => ((euclid_Modulo.f k 1 (([2] : List Int)) (([0, 1] : List Int))).bind fun bt449 => (if bt439.2 = 0 then (if bt449.2.2 = 0 then (if bt449.2.1 = true then ((cr1_Same.f k bt439.1 (([1, 1] : List Int))).bind fun t457 => (if t457 = true then ((cr1_Same.f k bt449.1 (([1006632961] : List Int))).bind fun t461 => (some t461)) else (none))) else (none)) else (none)) else (none)))) = some r := by first | (rw [hy433]; with_reducible exact H) | (have H2_ := (Option.bind_some _ _).symm.trans H; rw [hy433]; with_reducible exact H2_) | (have H2_ := (Option.bind_some _ _).symm.trans H; with_reducible exact H2_) | with_reducible exact H | (rw [hy433]; exact H) | exact H
 have Ny433 := Aside0.mk hy433
 clear hy433
 obtain ⟨y436, hy436⟩ : ∃ y_ : List Int, y_ = (([2, 2] : List Int)) := ⟨_, rfl⟩
 replace H : ((euclid_GCD.f k 1 y433 y436).bind fun bt439 => ((euclid_Modulo.f k 1 (([2] : List Int)) (([0, 1] : List Int))).bind fun bt449 => (if bt439.2 = 0 then (if bt449.2.2 = 0 then (if bt449.2.1 = true then ((cr1_Same.f k bt439.1 (([1, 1] : List Int))).bind fun t457 => (if t457 = true then ((cr1_Same.f k bt449.1 (([1006632961] : List Int))).bind fun t461 => (some t461)) else (none))) else (none)) else (none)) else (none)))) = some r := by first | (rw [hy436]; with_reducible exact H) | (have H2_ := (Option.bind_some _ _).symm.trans H; rw [hy436]; with_reducible exact H2_) | (have H2_ := (Option.bind_some _ _).symm.trans H; with_reducible exact H2_) | with_reducible exact H | (rw [hy436]; exact H) | exact H
 have Ny436 := Aside0.mk hy436
 clear hy436
 replace H := Option.bind_eq_some_iff.mp H
 obtain ⟨⟨t439, t442⟩, A10, H⟩ := H
 (try dsimp only at H)
 have A1 := Aside0.mk A10
 clear A10
 obtain ⟨y443, hy443⟩ : ∃ y_ : List Int, y_ = (([2] : List Int)) := ⟨_, rfl⟩
 replace H : ((euclid_Modulo.f k 1 y443 (([0, 1] : List Int))).bind fun bt449 => (if t442 = 0 then (if bt449.2.2 = 0 then (if bt449.2.1 = true then ((cr1_Same.f k t439 (([1, 1] : List Int))).bind fun t457 => (if t457 = true then ((cr1_Same.f k bt449.1 (([1006632961] : List Int))).bind fun t461 => (some t461)) else (none))) else (none)) else (none)) else (none))) = some r := by first | (rw [hy443]; with_reducible exact H) | (have H2_ := (Option.bind_some _ _).symm.trans H; rw [hy443]; with_reducible exact H2_) | (have H2_ := (Option.bind_some _ _).symm.trans H; with_reducible exact H2_) | with_reducible exact H | (rw [hy443]; exact H) | exact H
 have Ny443 := Aside0.mk hy443
 clear hy443
 obtain ⟨y446, hy446⟩ : ∃ y_ : List Int, y_ = (([0, 1] : List Int)) := ⟨_, rfl⟩
 replace H : ((euclid_Modulo.f k 1 y443 y446).bind fun bt449 => (if t442 = 0 then (if bt449.2.2 = 0 then (if bt449.2.1 = true then ((cr1_Same.f k t439 (([1, 1] : List Int))).bind fun t457 => (if t457 = true then ((cr1_Same.f k bt449.1 (([1006632961] : List Int))).bind fun t461 => (some t461)) else (none))) else (none)) else (none)) else (none))) = some r := by first | (rw [hy446]; with_reducible exact H) | (have H2_ := (Option.bind_some _ _).symm.trans H; rw [hy446]; with_reducible exact H2_) | (have H2_ := (Option.bind_some _ _).symm.trans H; with_reducible exact H2_) | with_reducible exact H | (rw [hy446]; exact H) | exact H
 have Ny446 := Aside0.mk hy446
 clear hy446
 replace H := Option.bind_eq_some_iff.mp H
 obtain ⟨⟨t449, t452, t453⟩, A20, H⟩ := H
 replace H : (if t442 = 0 then (if t453 = 0 then (if t452 = true then ((cr1_Same.f k t439 (([1, 1] : List Int))).bind fun t457 => (if t457 = true then ((cr1_Same.f k t449 (([1006632961] : List Int))).bind fun t461 => (some t461)) else (none))) else (none)) else (none)) else (none)) = some r := H
 have A2 := Aside0.mk A20
 clear A20
 by_cases c3 : t442 = 0
 ·rw [if_pos c3] at H
  have c3b0 : (t442 == 0) = true := beq_iff_eq.mpr c3
  have c3b1 : (t442 != 0) = false := bne_eq_false_iff_eq.mpr c3
  clear c3
  by_cases c4 : t453 = 0
  ·rw [if_pos c4] at H
   have c4b0 : (t453 == 0) = true := beq_iff_eq.mpr c4
   have c4b1 : (t453 != 0) = false := bne_eq_false_iff_eq.mpr c4
   clear c4
   by_cases c5 : t452 = true
   ·subst c5
    have H1 : ((cr1_Same.f k t439 (([1, 1] : List Int))).bind fun t457 => (if t457 = true then ((cr1_Same.f k t449 (([1006632961] : List Int))).bind fun t461 => (some t461)) else (none))) = some r := by rw [if_pos rfl] at H; exact H
    clear H
    have H := H1
    clear H1
    obtain ⟨y454, hy454⟩ : ∃ y_ : List Int, y_ = (([1, 1] : List Int)) := ⟨_, rfl⟩
    replace H : ((cr1_Same.f k t439 y454).bind fun t457 => (if t457 = true then ((cr1_Same.f k t449 (([1006632961] : List Int))).bind fun t461 => (some t461)) else (none))) = some r := by first | (rw [hy454]; with_reducible exact H) | (have H2_ := (Option.bind_some _ _).symm.trans H; rw [hy454]; with_reducible exact H2_) | (have H2_ := (Option.bind_some _ _).symm.trans H; with_reducible exact H2_) | with_reducible exact H | (rw [hy454]; exact H) | exact H
    have Ny454 := Aside0.mk hy454
    clear hy454
    replace H := Option.bind_eq_some_iff.mp H
    obtain ⟨t457, A60, H⟩ := H
    replace H : (if t457 = true then ((cr1_Same.f k t449 (([1006632961] : List Int))).bind fun t461 => (some t461)) else (none)) = some r := H
    have A6 := Aside0.mk A60
    clear A60
    by_cases c7 : t457 = true
    ·subst c7
     have H1 : ((cr1_Same.f k t449 (([1006632961] : List Int))).bind fun t461 => (some t461)) = some r := by rw [if_pos rfl] at H; exact H
     clear H
     have H := H1
     clear H1
     obtain ⟨y458, hy458⟩ : ∃ y_ : List Int, y_ = (([1006632961] : List Int)) := ⟨_, rfl⟩
     replace H : ((cr1_Same.f k t449 y458).bind fun t461 => (some t461)) = some r := by first | (rw [hy458]; with_reducible exact H) | (have H2_ := (Option.bind_some _ _).symm.trans H; rw [hy458]; with_reducible exact H2_) | (have H2_ := (Option.bind_some _ _).symm.trans H; with_reducible exact H2_) | with_reducible exact H | (rw [hy458]; exact H) | exact H
     have Ny458 := Aside0.mk hy458
     clear hy458
     replace H := Option.bind_eq_some_iff.mp H
     obtain ⟨t461, A80, H⟩ := H
     replace H : (some t461) = some r := H
     have A8 := Aside0.mk A80
     clear A80
     obtain rfl := Option.some.inj H
     go_enter Try.func17, Try.ntmps17
     go_wp2_with (first | ((with_reducible refine gate_dst (N := 7) rfl ?_); (try (refine gate_guard (by rfl) ?_; dsimp only)); refine Kd.R_lit (Kd.int .u64) _ 40 ?hg (N := 7) ?hd (xs := ([2013265920, 0, 1] : List Int)) (inner := [.int .u64 2013265920, .int .u64 0, .int .u64 1]) (ok := fun _ => True) (okp := fun _ => True) ?hr ?hp (fun _ hk => hk) trivial (Below.refl _ _) (Nat.le_refl _) (by simp) ?_; (case hd => rfl); (case hg => rfl); (case hr => first | (go_simp; done) | (go_simp; rfl)); (case hp => exact (Reps.one (show Kd.M (Kd.int .u64) _ _ _ 2013265920 [.int .u64 2013265920] from rfl) (Reps.one (show Kd.M (Kd.int .u64) _ _ _ 0 [.int .u64 0] from rfl) (Reps.one (show Kd.M (Kd.int .u64) _ _ _ 1 [.int .u64 1] from rfl) (Reps.none _ _))))); intro v434 w9 ho10 hb hg_ hnew_; clear hg_ hnew_; (first | rw [← Ny433.out] at ho10 | (simp only [Int.reduceToNat] at ho10; rw [← Ny433.out] at ho10)); have n0_ := A_ (Kd.R_lower (Kd.R_mono (ok' := fun _ => True) ho10 (fun _ _ => trivial)) (below_size hb_)); have n1_ := A_ (below_step hb_ hb); clear HB; have HO435 := n0_; have HB := n1_; clear n0_ n1_; clear hb ho10) | ((with_reducible refine gate_dst (N := 8) rfl ?_); (try (refine gate_guard (by rfl) ?_; dsimp only)); refine Kd.R_lit (Kd.int .u64) _ 40 ?hg (N := 8) ?hd (xs := ([2, 2] : List Int)) (inner := [.int .u64 2, .int .u64 2]) (ok := fun _ => True) (okp := fun _ => True) ?hr ?hp (fun _ hk => hk) trivial (Below.refl _ _) (Nat.le_refl _) (by simp) ?_; (case hd => rfl); (case hg => rfl); (case hr => first | (go_simp; done) | (go_simp; rfl)); (case hp => exact (Reps.one (show Kd.M (Kd.int .u64) _ _ _ 2 [.int .u64 2] from rfl) (Reps.one (show Kd.M (Kd.int .u64) _ _ _ 2 [.int .u64 2] from rfl) (Reps.none _ _)))); intro v437 w11 ho12 hb hg_ hnew_; clear hg_ hnew_; (first | rw [← Ny436.out] at ho12 | (simp only [Int.reduceToNat] at ho12; rw [← Ny436.out] at ho12)); have n0_ := A_ (Kd.R_below (nR_ HO435) hb); have n1_ := A_ (Kd.R_lower (Kd.R_mono (ok' := fun _ => True) ho12 (fun _ _ => trivial)) (below_size hb_)); have n2_ := A_ (below_step hb_ hb); clear HO435 HB; have HO435 := n0_; have HO438 := n1_; have HB := n2_; clear n0_ n1_ n2_; clear hb ho12; obtain ⟨Ao13, co13, eo13⟩ := Kd.R_slice HO435.out; subst eo13; obtain ⟨Ao14, co14, eo14⟩ := Kd.R_slice HO438.out; subst eo14) | ((with_reducible refine gate_callee (f := 10) rfl ?_); refine goesM_ (some 9) Try.func10 #[.int .u8 1, .slice Ao13 y433.length co13, .slice Ao14 y436.length co14] ?_; (with_reducible refine (euclid_GCD.calls k 1 (fun k_ => some k_ = (.slice Ao13 y433.length co13 : Value).ownBlock) _ _ y433 (fun k_ => some k_ = (.slice Ao14 y436.length co14 : Value).ownBlock) _ _ y436 t439 t442 _ ?side1 ?side2 A1.out).mono ?_); (case side1 => exact Kd.R_V (Kd.R_tight rfl (HO435.out))); (case side2 => exact Kd.R_V (Kd.R_tight rfl (HO438.out))); rintro e w15 ⟨v440, rfl, ho0, hb⟩; refine ⟨_, rfl, ?_⟩; have n0_ := A_ (Kd.R_below (nR_ HO435) hb); have n1_ := A_ (Kd.R_below (nR_ HO438) hb); have n2_ := A_ (Kd.R_lower (Kd.R_mono (ok' := fun k_ => True) ho0 (fun _ hk_ => trivial)) (below_size hb_)); have n3_ := A_ (below_step hb_ hb); clear HO435 HO438 HB; have HO435 := n0_; have HO438 := n1_; have HO441 := n2_; have HB := n3_; clear n0_ n1_ n2_ n3_; (try clear hb); (try clear ho0)) | ((with_reducible refine gate_dst (N := 13) rfl ?_); (try (refine gate_guard (by rfl) ?_; dsimp only)); refine Kd.R_lit (Kd.int .u64) _ 40 ?hg (N := 13) ?hd (xs := ([2] : List Int)) (inner := [.int .u64 2]) (ok := fun _ => True) (okp := fun _ => True) ?hr ?hp (fun _ hk => hk) trivial (Below.refl _ _) (Nat.le_refl _) (by simp) ?_; (case hd => rfl); (case hg => rfl); (case hr => first | (go_simp; done) | (go_simp; rfl)); (case hp => exact (Reps.one (show Kd.M (Kd.int .u64) _ _ _ 2 [.int .u64 2] from rfl) (Reps.none _ _))); intro v444 w16 ho17 hb hg_ hnew_; clear hg_ hnew_; (first | rw [← Ny443.out] at ho17 | (simp only [Int.reduceToNat] at ho17; rw [← Ny443.out] at ho17)); have n0_ := A_ (Kd.R_below (nR_ HO435) hb); have n1_ := A_ (Kd.R_below (nR_ HO438) hb); have n2_ := A_ (Kd.R_below (nR_ HO441) hb); have n3_ := A_ (Kd.R_lower (Kd.R_mono (ok' := fun _ => True) ho17 (fun _ _ => trivial)) (below_size hb_)); have n4_ := A_ (below_step hb_ hb); clear HO435 HO438 HO441 HB; have HO435 := n0_; have HO438 := n1_; have HO441 := n2_; have HO445 := n3_; have HB := n4_; clear n0_ n1_ n2_ n3_ n4_; clear hb ho17) | ((with_reducible refine gate_dst (N := 14) rfl ?_); (try (refine gate_guard (by rfl) ?_; dsimp only)); refine Kd.R_lit (Kd.int .u64) _ 40 ?hg (N := 14) ?hd (xs := ([0, 1] : List Int)) (inner := [.int .u64 0, .int .u64 1]) (ok := fun _ => True) (okp := fun _ => True) ?hr ?hp (fun _ hk => hk) trivial (Below.refl _ _) (Nat.le_refl _) (by simp) ?_; (case hd => rfl); (case hg => rfl); (case hr => first | (go_simp; done) | (go_simp; rfl)); (case hp => exact (Reps.one (show Kd.M (Kd.int .u64) _ _ _ 0 [.int .u64 0] from rfl) (Reps.one (show Kd.M (Kd.int .u64) _ _ _ 1 [.int .u64 1] from rfl) (Reps.none _ _)))); intro v447 w18 ho19 hb hg_ hnew_; clear hg_ hnew_; (first | rw [← Ny446.out] at ho19 | (simp only [Int.reduceToNat] at ho19; rw [← Ny446.out] at ho19)); have n0_ := A_ (Kd.R_below (nR_ HO435) hb); have n1_ := A_ (Kd.R_below (nR_ HO438) hb); have n2_ := A_ (Kd.R_below (nR_ HO441) hb); have n3_ := A_ (Kd.R_below (nR_ HO445) hb); have n4_ := A_ (Kd.R_lower (Kd.R_mono (ok' := fun _ => True) ho19 (fun _ _ => trivial)) (below_size hb_)); have n5_ := A_ (below_step hb_ hb); clear HO435 HO438 HO441 HO445 HB; have HO435 := n0_; have HO438 := n1_; have HO441 := n2_; have HO445 := n3_; have HO448 := n4_; have HB := n5_; clear n0_ n1_ n2_ n3_ n4_ n5_; clear hb ho19; obtain ⟨Ao20, co20, eo20⟩ := Kd.R_slice HO445.out; subst eo20; obtain ⟨Ao21, co21, eo21⟩ := Kd.R_slice HO448.out; subst eo21) | ((with_reducible refine gate_callee (f := 12) rfl ?_); refine goesM_ (some 15) Try.func12 #[.int .u8 1, .slice Ao20 y443.length co20, .slice Ao21 y446.length co21] ?_; (with_reducible refine (euclid_Modulo.calls k 1 (fun k_ => some k_ = (.slice Ao20 y443.length co20 : Value).ownBlock) _ _ y443 (fun k_ => some k_ = (.slice Ao21 y446.length co21 : Value).ownBlock) _ _ y446 t449 true t453 _ ?side1 ?side2 A2.out).mono ?_); (case side1 => exact Kd.R_V (Kd.R_tight rfl (HO445.out))); (case side2 => exact Kd.R_V (Kd.R_tight rfl (HO448.out))); rintro e w22 ⟨v450, rfl, ho0, hb⟩; refine ⟨_, rfl, ?_⟩; have n0_ := A_ (Kd.R_below (nR_ HO435) hb); have n1_ := A_ (Kd.R_below (nR_ HO438) hb); have n2_ := A_ (Kd.R_below (nR_ HO441) hb); have n3_ := A_ (Kd.R_below (nR_ HO445) hb); have n4_ := A_ (Kd.R_below (nR_ HO448) hb); have n5_ := A_ (Kd.R_lower (Kd.R_mono (ok' := fun k_ => True) ho0 (fun _ hk_ => trivial)) (below_size hb_)); have n6_ := A_ (below_step hb_ hb); clear HO435 HO438 HO441 HO445 HO448 HB; have HO435 := n0_; have HO438 := n1_; have HO441 := n2_; have HO445 := n3_; have HO448 := n4_; have HO451 := n5_; have HB := n6_; clear n0_ n1_ n2_ n3_ n4_ n5_ n6_; (try clear hb); (try clear ho0)) | ((with_reducible refine gate_dst (N := 30) rfl ?_); (try (refine gate_guard (by rfl) ?_; dsimp only)); refine Kd.R_lit (Kd.int .u64) _ 40 ?hg (N := 30) ?hd (xs := ([1, 1] : List Int)) (inner := [.int .u64 1, .int .u64 1]) (ok := fun _ => True) (okp := fun _ => True) ?hr ?hp (fun _ hk => hk) trivial (Below.refl _ _) (Nat.le_refl _) (by simp) ?_; (case hd => rfl); (case hg => rfl); (case hr => first | (go_simp; done) | (go_simp; rfl)); (case hp => exact (Reps.one (show Kd.M (Kd.int .u64) _ _ _ 1 [.int .u64 1] from rfl) (Reps.one (show Kd.M (Kd.int .u64) _ _ _ 1 [.int .u64 1] from rfl) (Reps.none _ _)))); intro v455 w23 ho24 hb hg_ hnew_; clear hg_ hnew_; (first | rw [← Ny454.out] at ho24 | (simp only [Int.reduceToNat] at ho24; rw [← Ny454.out] at ho24)); have n0_ := A_ (Kd.R_below (nR_ HO435) hb); have n1_ := A_ (Kd.R_below (nR_ HO438) hb); have n2_ := A_ (Kd.R_below (nR_ HO441) hb); have n3_ := A_ (Kd.R_below (nR_ HO445) hb); have n4_ := A_ (Kd.R_below (nR_ HO448) hb); have n5_ := A_ (Kd.R_below (nR_ HO451) hb); have n6_ := A_ (Kd.R_lower (Kd.R_mono (ok' := fun _ => True) ho24 (fun _ _ => trivial)) (below_size hb_)); have n7_ := A_ (below_step hb_ hb); clear HO435 HO438 HO441 HO445 HO448 HO451 HB; have HO435 := n0_; have HO438 := n1_; have HO441 := n2_; have HO445 := n3_; have HO448 := n4_; have HO451 := n5_; have HO456 := n6_; have HB := n7_; clear n0_ n1_ n2_ n3_ n4_ n5_ n6_ n7_; clear hb ho24; obtain ⟨Ao25, co25, eo25⟩ := Kd.R_slice HO441.out; subst eo25; obtain ⟨Ao26, co26, eo26⟩ := Kd.R_slice HO456.out; subst eo26) | (go_at_call 14; (with_reducible refine (cr1_Same.calls k _ _ t439 _ _ y454 true _ ?side1 ?side2 ?side3 ?side4 A6.out).mono ?_); (case side1 => repeat (first | exact (Kd.R_reads' HO441.out).2.2 | (with_reducible refine Kd.C_alloc ?_ _) | (with_reducible refine Kd.C_drewN ?_ _) | (with_reducible refine Kd.C_drew ?_))); (case side2 => exact (Kd.R_reads' HO441.out).2.1); (case side3 => repeat (first | exact (Kd.R_reads' HO456.out).2.2 | (with_reducible refine Kd.C_alloc ?_ _) | (with_reducible refine Kd.C_drewN ?_ _) | (with_reducible refine Kd.C_drew ?_))); (case side4 => exact (Kd.R_reads' HO456.out).2.1); rintro e w' ⟨rfl, ⟨nd, rfl⟩⟩) | ((with_reducible refine gate_dst (N := 35) rfl ?_); (try (refine gate_guard (by rfl) ?_; dsimp only)); refine Kd.R_lit (Kd.int .u64) _ 40 ?hg (N := 35) ?hd (xs := ([1006632961] : List Int)) (inner := [.int .u64 1006632961]) (ok := fun _ => True) (okp := fun _ => True) ?hr ?hp (fun _ hk => hk) trivial (Below.refl _ _) (Nat.le_refl _) (by simp) ?_; (case hd => rfl); (case hg => rfl); (case hr => first | (go_simp; done) | (go_simp; rfl)); (case hp => exact (Reps.one (show Kd.M (Kd.int .u64) _ _ _ 1006632961 [.int .u64 1006632961] from rfl) (Reps.none _ _))); intro v459 w27 ho28 hb hg_ hnew_; clear hg_ hnew_; (first | rw [← Ny458.out] at ho28 | (simp only [Int.reduceToNat] at ho28; rw [← Ny458.out] at ho28)); have n0_ := A_ (Kd.R_below (nR_ HO435) hb); have n1_ := A_ (Kd.R_below (nR_ HO438) hb); have n2_ := A_ (Kd.R_below (nR_ HO441) hb); have n3_ := A_ (Kd.R_below (nR_ HO445) hb); have n4_ := A_ (Kd.R_below (nR_ HO448) hb); have n5_ := A_ (Kd.R_below (nR_ HO451) hb); have n6_ := A_ (Kd.R_below (nR_ HO456) hb); have n7_ := A_ (Kd.R_lower (Kd.R_mono (ok' := fun _ => True) ho28 (fun _ _ => trivial)) (below_size hb_)); have n8_ := A_ (below_step hb_ hb); clear HO435 HO438 HO441 HO445 HO448 HO451 HO456 HB; have HO435 := n0_; have HO438 := n1_; have HO441 := n2_; have HO445 := n3_; have HO448 := n4_; have HO451 := n5_; have HO456 := n6_; have HO460 := n7_; have HB := n8_; clear n0_ n1_ n2_ n3_ n4_ n5_ n6_ n7_ n8_; clear hb ho28; obtain ⟨Ao29, co29, eo29⟩ := Kd.R_slice HO451.out; subst eo29; obtain ⟨Ao30, co30, eo30⟩ := Kd.R_slice HO460.out; subst eo30) | (go_at_call 14; (with_reducible refine (cr1_Same.calls k _ _ t449 _ _ y458 t461 _ ?side1 ?side2 ?side3 ?side4 A8.out).mono ?_); (case side1 => repeat (first | exact (Kd.R_reads' HO451.out).2.2 | (with_reducible refine Kd.C_alloc ?_ _) | (with_reducible refine Kd.C_drewN ?_ _) | (with_reducible refine Kd.C_drew ?_))); (case side2 => exact (Kd.R_reads' HO451.out).2.1); (case side3 => repeat (first | exact (Kd.R_reads' HO460.out).2.2 | (with_reducible refine Kd.C_alloc ?_ _) | (with_reducible refine Kd.C_drewN ?_ _) | (with_reducible refine Kd.C_drew ?_))); (case side4 => exact (Kd.R_reads' HO460.out).2.1); rintro e w' ⟨rfl, ⟨nd, rfl⟩⟩))
     go_ret
     exact ⟨fr_, hb_⟩
    ·replace c7 := Bool.eq_false_iff.mpr c7
     subst c7
     have H1 : (none) = some r := by rw [if_neg (show ¬ (false = true) by decide)] at H; exact H
     clear H
     have H := H1
     clear H1
     exact absurd H (by simp)
   ·replace c5 := Bool.eq_false_iff.mpr c5
    subst c5
    have H1 : (none) = some r := by rw [if_neg (show ¬ (false = true) by decide)] at H; exact H
    clear H
    have H := H1
    clear H1
    exact absurd H (by simp)
  ·rw [if_neg c4] at H
   exact absurd H (by simp)
 ·rw [if_neg c3] at H
  exact absurd H (by simp)
/-! ### cr1_Copy: function 44 -/
def cr1_Copy.f (l0 : List Int) : Option (List Int) := (some (([] : List Int) : List Int)).bind fun y462 => (if y462.length + l0.length < 17592186044416 then (some (y462 ++ l0)) else (none))
set_option maxHeartbeats 8000000 in
set_option maxRecDepth 100000 in
theorem cr1_Copy.calls (A0 : Option Addr) (c0 : Nat) (l0 : List Int) (r : List Int) (w : World) (hr0 : Kd.C (Kd.int .u64) w A0 l0.length l0) (hc0 : l0.length ≤ c0) (h : cr1_Copy.f l0 = some r) :
  Calls Try.prog 44 #[.slice A0 l0.length c0] w fun e w' => ∃ v0_ : Value, e = .returned (v0_) ∧ Kd.R (Kd.int .u64) 40 w' w.heap.size (fun _ => True) v0_ r ∧ Below w.heap.size w w' := by
 have HR0 := Aside0.mk hr0
 have HC0 := Aside0.mk hc0
 clear hr0 hc0
 have HB := A_ (Below.refl w.heap.size w)
 have H : ((some (([] : List Int) : List Int)).bind fun y462 => (if y462.length + l0.length < 17592186044416 then (some (y462 ++ l0)) else (none))) = some r := h
 clear h
 obtain ⟨y462, hy462⟩ : ∃ y_ : List Int, y_ = (([] : List Int)) := ⟨_, rfl⟩
 replace H : (if y462.length + l0.length < 17592186044416 then (some (y462 ++ l0)) else (none)) = some r := by first | (rw [hy462]; with_reducible exact H) | (have H2_ := (Option.bind_some _ _).symm.trans H; rw [hy462]; with_reducible exact H2_) | (have H2_ := (Option.bind_some _ _).symm.trans H; with_reducible exact H2_) | with_reducible exact H | (rw [hy462]; exact H) | exact H
 have Ny462 := Aside0.mk hy462
 clear hy462
 by_cases c2 : y462.length + l0.length < 17592186044416
 ·rw [if_pos c2] at H
  have LMc2 := Aside0.mk c2
  clear c2
  obtain ⟨y465, hy465⟩ : ∃ y_ : List Int, y_ = (y462 ++ l0) := ⟨_, rfl⟩
  replace H : (some y465) = some r := by first | (rw [hy465]; with_reducible exact H) | (have H2_ := (Option.bind_some _ _).symm.trans H; rw [hy465]; with_reducible exact H2_) | (have H2_ := (Option.bind_some _ _).symm.trans H; with_reducible exact H2_) | with_reducible exact H | (rw [hy465]; exact H) | exact H
  have Ny465 := Aside0.mk hy465
  clear hy465
  obtain rfl := Option.some.inj H
  go_enter Try.func44, Try.ntmps44
  go_wp2_with (first | ((with_reducible refine gate_dst (N := 3) rfl ?_); refine Kd.R_lit (Kd.int .u64) _ 40 ?hg (N := 3) ?hd (xs := ([] : List Int)) (inner := []) (ok := fun _ => True) (okp := fun _ => True) ?hr ?hp (fun _ hk => hk) trivial (Below.refl _ _) (Nat.le_refl _) (by simp) ?_; (case hd => rfl); (case hg => rfl); (case hr => first | (go_simp; done) | (go_simp; rfl)); (case hp => exact (Reps.none _ _)); intro v463 w3 ho4 hb hg_ hnew_; clear hg_ hnew_; (first | rw [← Ny462.out] at ho4 | (simp only [Int.reduceToNat] at ho4; rw [← Ny462.out] at ho4)); have n0_ := A_ (Kd.R_lower ho4 (below_size hb_)); have n1_ := A_ (below_step hb_ hb); clear HB; have HO464 := n0_; have HB := n1_; clear n0_ n1_; clear hb ho4) | ((with_reducible refine gate_builtin (b := .append) (xs := #[.tmp 3, .tmp 4]) rfl ?_); at_builtin; refine Kd.R_append_rows (Kd.int .u64) (w0 := w) w.heap.size rfl (.tmp 3) (.tmp 4) 22 40 (.int .u64 0) 8 rfl Try.underlying22 info40 rfl (by decide) (by omega) v463 y462 l0 _ _ _ (fun _ => True) (fun _ => False) rfl rfl ?aO ?aR (fun _ _ h => h) (fun _ h => h.elim) ?aF ?aB ?aS ?aL ?_; (case aR => repeat (first | exact (Kd.C_below HR0.out HB.out) | (with_reducible refine Kd.C_alloc ?_ _) | (with_reducible refine Kd.C_drewN ?_ _) | (with_reducible refine Kd.C_drew ?_))); (case aB => exact hb_); (case aF => exact (fun _ _ => trivial)); (case aO => exact (nR_ HO464)); (case aS => exact (below_size hb_)); (case aL => have := LMc2.out; omega); intro v466 w5 ho hb hg hat; rw [← Ny465.out] at ho; have n0_ := A_ (hb); have n1_ := A_ (ho); clear HB HO464; have HB := n0_; have HO467 := n1_; clear n0_ n1_; clear ho hb hg hat))
  go_ret
  exact ⟨_, fr_, nR_ HO467, hb_⟩
 ·rw [if_neg c2] at H
  exact absurd H (by simp)
/-! ### cr3_Trim: function 20 -/
def cr3_Trim.l0 : Nat → List Int → Int → Option (List Int)
 | 0, _, _ => none
 | k + 1, x0, x3 => if x3 > 0 then (if 0 ≤ (wrap64 (x3 - 1)) then (if (wrap64 (x3 - 1)) < (x0.length : Int) then (if (rd x0 (wrap64 (x3 - 1))) = 0 then (cr3_Trim.l0 k x0 (wrap64 (x3 - 1))) else (if 0 ≤ x3 then (if x3 ≤ (x0.length : Int) then ((cr1_Copy.f (x0.take (x3 : Int).toNat)).bind fun t470 => (some t470)) else (none)) else (none))) else (none)) else (none)) else (if 0 ≤ x3 then (if x3 ≤ (x0.length : Int) then ((cr1_Copy.f (x0.take (x3 : Int).toNat)).bind fun t474 => (some t474)) else (none)) else (none))
def cr3_Trim.f (k : Nat) (l0 : List Int) : Option (List Int) := cr3_Trim.l0 k l0 (l0.length : Int)
theorem cr3_Trim.mono_l : ∀ k, (∀ y0 y1, LeO (cr3_Trim.l0 k y0 y1) (cr3_Trim.l0 (k + 1) y0 y1))
 | 0 => fun _ _ r h => by simp [cr3_Trim.l0] at h
 | k + 1 => by
  have ih0 := cr3_Trim.mono_l k
  ·intro y0 y1
   unfold cr3_Trim.l0
   repeat' first
   | (with_reducible exact ih0 _ _)
   | (with_reducible exact LeO.refl _)
   | (with_reducible exact LeO.none _)
   | (with_reducible refine LeO.ite ?_ ?_)
   | (with_reducible refine LeO.bind ?_ (fun _ => ?_))
   | exact ih0 _ _
   | exact LeO.none _
   | refine LeO.ite ?_ ?_
   | refine LeO.bind ?_ (fun _ => ?_)
theorem cr3_Trim.mono : ∀ a0 k, LeO (cr3_Trim.f k a0) (cr3_Trim.f (k + 1) a0) := by
 intro a0 k
 have ih0 := cr3_Trim.mono_l k
 unfold cr3_Trim.f
 repeat' first
   | (with_reducible exact ih0 _ _)
   | (with_reducible exact LeO.refl _)
   | (with_reducible exact LeO.none _)
   | (with_reducible refine LeO.ite ?_ ?_)
   | (with_reducible refine LeO.bind ?_ (fun _ => ?_))
   | exact ih0 _ _
   | exact LeO.none _
   | refine LeO.ite ?_ ?_
   | refine LeO.bind ?_ (fun _ => ?_)
set_option maxHeartbeats 8000000 in
set_option maxRecDepth 100000 in
theorem cr3_Trim.calls (k : Nat) (A0 : Option Addr) (c0 : Nat) (l0 : List Int) (r : List Int) (w : World) (hr0 : Kd.C (Kd.int .u64) w A0 l0.length l0) (hc0 : l0.length ≤ c0) (h : cr3_Trim.f k l0 = some r) :
  Calls Try.prog 20 #[.slice A0 l0.length c0] w fun e w' => ∃ v0_ : Value, e = .returned (v0_) ∧ Kd.R (Kd.int .u64) 40 w' w.heap.size (fun _ => True) v0_ r ∧ Below w.heap.size w w' := by
 have HR0 := Aside0.mk hr0
 have HC0 := Aside0.mk hc0
 clear hr0 hc0
 have HB := A_ (Below.refl w.heap.size w)
 have H : (cr3_Trim.l0 k l0 (l0.length : Int)) = some r := h
 clear h
 have H' := Aside0.mk H
 clear H
 go_enter Try.func20, Try.ntmps20
 go_wp2
 go_loopg [3] k (fun kq v3 w' => ∃ (x3_1 : Int), v3 = .int .i64 x3_1 ∧ Aside0 (cr3_Trim.l0 kq l0 x3_1 = some r) ∧ Aside0 (kq ≤ k) ∧ Aside0 (Below w.heap.size w w'))
 case atStart => exact ⟨((l0.length : Int)), (fs_), H', ⟨Nat.le_refl _⟩, ⟨by repeat (first | (with_reducible first | exact HB.out | apply below_alloc | apply pw_below_drewN | apply below_drew1) | exact HB.out)⟩⟩
 case round =>
  clear H'
  obtain ⟨x3_1, rfl, HA, HK1, HB⟩ := hrel
  cases gk with
  | zero => exact absurd HA.out (by simp [cr3_Trim.l0])
  | succ k1 =>
   have H := HA.out
   clear HA
   simp only [cr3_Trim.l0] at H
   by_cases c2 : x3_1 > 0
   ·rw [if_pos c2] at H
    have c2b0 : decide (0 < x3_1) = true := decide_eq_true c2
    clear c2
    obtain ⟨ji3, hji3⟩ : ∃ j_ : Int, (wrap64 (x3_1 - 1)) = j_ := ⟨_, rfl⟩
    replace H : (if 0 ≤ (ji3) then (if (ji3) < (l0.length : Int) then (if (rd l0 (ji3)) = 0 then (cr3_Trim.l0 k1 l0 ji3) else (if 0 ≤ x3_1 then (if x3_1 ≤ (l0.length : Int) then ((cr1_Copy.f (l0.take (x3_1 : Int).toNat)).bind fun t470 => (some t470)) else (none)) else (none))) else (none)) else (none)) = some r := by first | (rw [hji3] at H; exact H) | (simp only [hji3] at H ⊢; exact H)
    have hji3w : (IntKind.i64.wrap (x3_1 - 1)) = ji3 := (i64_w _).trans hji3
    by_cases c4 : 0 ≤ (ji3)
    ·rw [if_pos c4] at H
     have c4b0 : decide (0 ≤ (ji3)) = true := decide_eq_true c4
     clear c4
     by_cases c5 : (ji3) < (l0.length : Int)
     ·rw [if_pos c5] at H
      have c5b0 : decide ((ji3) < (l0.length : Int)) = true := decide_eq_true c5
      clear c5
      have HC6 := Aside0.mk H
      clear H
      have p468 : 0 ≤ ((ji3) : Int) := of_decide_eq_true (by first | (with_reducible assumption) | assumption)
      have q468 : (ji3) < (l0.length : Int) := of_decide_eq_true (by first | (with_reducible assumption) | assumption)
      obtain ⟨ad468, e468, hx468_0⟩ := Kd.at_int HR0.out (ji3) p468 q468
      cases e468
      replace hx468_0 := (HB.out.cell (World.block_lt_of_cell? w _ hx468_0)).trans hx468_0
      replace p468 := eq_true p468
      replace q468 := eq_true q468
      go_upto_if 15 with (fail)
      have H := HC6.out
      clear HC6
      by_cases c7 : (rd l0 (ji3)) = 0
      ·rw [if_pos c7] at H
       have c7b0 : ((rd l0 (ji3)) == 0) = true := beq_iff_eq.mpr c7
       have c7b1 : ((rd l0 (ji3)) != 0) = false := bne_eq_false_iff_eq.mpr c7
       clear c7
       (first | rw [c7b0] | rw [c7b1] | (simp only [i64_w, i32_w]; first | rw [c7b0] | rw [c7b1]) | skip)
       have H' := Aside0.mk H
       clear H
       go_wp2
       go_roundg k1
       case measure => have := HK1.out; omega
       case rel => exact ⟨(ji3), (by first | rfl | (simp; done) | (simp only [← hji3] <;> (first | rfl | simp)) | (simp [*]; done)), H', ⟨by have := HK1.out; omega⟩, ⟨by repeat (first | (with_reducible first | exact HB.out | apply below_alloc | apply pw_below_drewN | apply below_drew1) | exact HB.out)⟩⟩
      ·rw [if_neg c7] at H
       have c7b0 : ((rd l0 (ji3)) == 0) = false := beq_eq_false_iff_ne.mpr c7
       have c7b1 : ((rd l0 (ji3)) != 0) = true := bne_iff_ne.mpr c7
       (first | rw [c7b0] | rw [c7b1] | (simp only [i64_w, i32_w]; first | rw [c7b0] | rw [c7b1]) | skip)
       by_cases c8 : 0 ≤ x3_1
       ·rw [if_pos c8] at H
        have c8b0 := eq_true c8
        have c8b1 : decide (0 ≤ x3_1) = true := decide_eq_true c8
        clear c8
        by_cases c9 : x3_1 ≤ (l0.length : Int)
        ·rw [if_pos c9] at H
         have c9b0 := eq_true c9
         have c9b1 : decide (x3_1 ≤ (l0.length : Int)) = true := decide_eq_true c9
         clear c9
         replace H := Option.bind_eq_some_iff.mp H
         obtain ⟨t470, A100, H⟩ := H
         replace H : (some t470) = some r := H
         have A10 := Aside0.mk A100
         clear A100
         obtain rfl := Option.some.inj H
         obtain ⟨i011, hi011, _, hsz11, _⟩ := info_parts info40
         obtain ⟨hcut11, hA11, hC11⟩ := print_take_of (P := Try.prog) (Value.int .u64) 0 22 40 .i64 Try.underlying22 hi011 hsz11 (some ad468) c0 l0 x3_1 (of_decide_eq_true (by first | (with_reducible assumption) | assumption)) (of_decide_eq_true (by first | (with_reducible assumption) | assumption)) HC0.out
         have HR469 := A_ (Kd.C_of_reads (h1 := fun _ => rfl) (hA11 _ (Kd.reads_of_C HR0.out)))
         have HC469 := Aside0.mk hC11
         clear hA11 hC11 hi011 hsz11
         go_wp2_with (first | ((with_reducible refine gate_callee (f := 44) rfl ?_); refine goesL_ (some 21) rfl rfl Try.func44 (by kernel_rfl) rfl #[.slice (some ad468) (l0.take (x3_1 : Int).toNat).length c0] rfl (by (try simp only [List.map_toArray, List.map_cons, List.map_nil]); first | done | (rw [show (l0.take (x3_1 : Int).toNat).length = x3_1.toNat from (by rw [List.length_take]; have h_ : (x3_1 : Int) ≤ (l0.length : Int) := of_decide_eq_true (by first | (with_reducible assumption) | assumption); omega)] <;> rfl) | rfl | (simp only [List.length_drop, List.length_take]; rfl)) ?_; (with_reducible refine (cr1_Copy.calls _ _ (l0.take (x3_1 : Int).toNat) t470 _ ?side1 ?side2 A10.out).mono ?_); (case side1 => repeat (first | exact (Kd.C_below HR469.out HB.out) | (with_reducible refine Kd.C_alloc ?_ _) | (with_reducible refine Kd.C_drewN ?_ _) | (with_reducible refine Kd.C_drew ?_))); (case side2 => exact HC469.out); rintro e w12 ⟨v471, rfl, ho0, hb⟩; refine ⟨_, rfl, ?_⟩; have n0_ := A_ (Kd.R_lower ho0 (below_size hb_)); have n1_ := A_ (below_step hb_ hb); clear HB; have HO472 := n0_; have HB := n1_; clear n0_ n1_; (try clear hb); (try clear ho0)))
         go_ret
         exact ⟨_, by first | rfl | (simp [errW_none, errW_some] <;> rfl) | (simp only [← hji3]; first | rfl | (simp [errW_none, errW_some] <;> rfl)) | (simp [*, errW_none, errW_some] <;> rfl), nR_ HO472, hb_⟩
        ·rw [if_neg c9] at H
         exact absurd H (by simp)
       ·rw [if_neg c8] at H
        exact absurd H (by simp)
     ·rw [if_neg c5] at H
      exact absurd H (by simp)
    ·rw [if_neg c4] at H
     exact absurd H (by simp)
   ·rw [if_neg c2] at H
    have c2b0 : decide (0 < x3_1) = false := decide_eq_false c2
    clear c2
    by_cases c13 : 0 ≤ x3_1
    ·rw [if_pos c13] at H
     have c13b0 := eq_true c13
     have c13b1 : decide (0 ≤ x3_1) = true := decide_eq_true c13
     clear c13
     by_cases c14 : x3_1 ≤ (l0.length : Int)
     ·rw [if_pos c14] at H
      have c14b0 := eq_true c14
      have c14b1 : decide (x3_1 ≤ (l0.length : Int)) = true := decide_eq_true c14
      clear c14
      replace H := Option.bind_eq_some_iff.mp H
      obtain ⟨t474, A150, H⟩ := H
      replace H : (some t474) = some r := H
      have A15 := Aside0.mk A150
      clear A150
      obtain rfl := Option.some.inj H
      obtain ⟨i016, hi016, _, hsz16, _⟩ := info_parts info40
      obtain ⟨hcut16, hA16, hC16⟩ := print_take_of (P := Try.prog) (Value.int .u64) 0 22 40 .i64 Try.underlying22 hi016 hsz16 A0 c0 l0 x3_1 (of_decide_eq_true (by first | (with_reducible assumption) | assumption)) (of_decide_eq_true (by first | (with_reducible assumption) | assumption)) HC0.out
      have HR473 := A_ (Kd.C_of_reads (h1 := fun _ => rfl) (hA16 _ (Kd.reads_of_C HR0.out)))
      have HC473 := Aside0.mk hC16
      clear hA16 hC16 hi016 hsz16
      go_wp2_with (first | ((with_reducible refine gate_callee (f := 44) rfl ?_); refine goesL_ (some 21) rfl rfl Try.func44 (by kernel_rfl) rfl #[.slice A0 (l0.take (x3_1 : Int).toNat).length c0] rfl (by (try simp only [List.map_toArray, List.map_cons, List.map_nil]); first | done | (rw [show (l0.take (x3_1 : Int).toNat).length = x3_1.toNat from (by rw [List.length_take]; have h_ : (x3_1 : Int) ≤ (l0.length : Int) := of_decide_eq_true (by first | (with_reducible assumption) | assumption); omega)] <;> rfl) | rfl | (simp only [List.length_drop, List.length_take]; rfl)) ?_; (with_reducible refine (cr1_Copy.calls _ _ (l0.take (x3_1 : Int).toNat) t474 _ ?side1 ?side2 A15.out).mono ?_); (case side1 => repeat (first | exact (Kd.C_below HR473.out HB.out) | (with_reducible refine Kd.C_alloc ?_ _) | (with_reducible refine Kd.C_drewN ?_ _) | (with_reducible refine Kd.C_drew ?_))); (case side2 => exact HC473.out); rintro e w17 ⟨v475, rfl, ho0, hb⟩; refine ⟨_, rfl, ?_⟩; have n0_ := A_ (Kd.R_lower ho0 (below_size hb_)); have n1_ := A_ (below_step hb_ hb); clear HB; have HO476 := n0_; have HB := n1_; clear n0_ n1_; (try clear hb); (try clear ho0)))
      go_ret
      exact ⟨_, fr_, nR_ HO476, hb_⟩
     ·rw [if_neg c14] at H
      exact absurd H (by simp)
    ·rw [if_neg c13] at H
     exact absurd H (by simp)
/-! ### cr1_Sum: function 41 -/
def cr1_Sum.f (a0 : Int) (a1 : Int) (a2 : Int) : Option (Int) := if a1 ≥ (IntKind.u64.wrap (a0 - a2)) then (some (IntKind.u64.wrap (a1 - (IntKind.u64.wrap (a0 - a2))))) else (some (IntKind.u64.wrap (a1 + a2)))
set_option maxHeartbeats 8000000 in
set_option maxRecDepth 100000 in
theorem cr1_Sum.calls (a0 : Int) (a1 : Int) (a2 : Int) (r : Int) (w : World) (h : cr1_Sum.f a0 a1 a2 = some r) :
  Calls Try.prog 41 #[.int .u64 a0, .int .u64 a1, .int .u64 a2] w fun e w' => e = .returned (.int .u64 r) ∧ Drawn0 w w' := by
 have H : (if a1 ≥ (IntKind.u64.wrap (a0 - a2)) then (some (IntKind.u64.wrap (a1 - (IntKind.u64.wrap (a0 - a2))))) else (some (IntKind.u64.wrap (a1 + a2)))) = some r := h
 clear h
 by_cases c4 : a1 ≥ (IntKind.u64.wrap (a0 - a2))
 ·rw [if_pos c4] at H
  have c4b0 : decide ((IntKind.u64.wrap (a0 - a2)) ≤ a1) = true := decide_eq_true c4
  clear c4
  obtain rfl := Option.some.inj H
  go_enter Try.func41, Try.ntmps41
  go_wp2
  go_ret
  exact ⟨fs_, by repeat (first | exact Drawn0.refl _ | apply Drawn0.step)⟩
 ·rw [if_neg c4] at H
  have c4b0 : decide ((IntKind.u64.wrap (a0 - a2)) ≤ a1) = false := decide_eq_false c4
  clear c4
  obtain rfl := Option.some.inj H
  go_enter Try.func41, Try.ntmps41
  go_wp2
  go_ret
  exact ⟨fs_, by repeat (first | exact Drawn0.refl _ | apply Drawn0.step)⟩
/-! ### cr1_Times: function 42 -/
def cr1_Times.l0 : Nat → Int → Int → Int → Int → Int → Option (Int)
 | 0, _, _, _, _, _ => none
 | k + 1, x0, x1, x2, x7, x8 => if x8 ≥ 0 then ((cr1_Sum.f x0 x7 x7).bind fun t477 => (if 0 ≤ (IntKind.u64.wrap (x8)) then (if (Go.bits .and .u64 (shr .u64 x2 (IntKind.u64.wrap (x8))) 1) = 1 then ((cr1_Sum.f x0 t477 x1).bind fun t478 => (cr1_Times.l0 k x0 x1 x2 t478 (wrap64 (x8 - 1)))) else (cr1_Times.l0 k x0 x1 x2 t477 (wrap64 (x8 - 1)))) else (none))) else (some x7)
def cr1_Times.f (k : Nat) (a0 : Int) (a1 : Int) (a2 : Int) : Option (Int) := cr1_Times.l0 k a0 a1 a2 0 63
theorem cr1_Times.mono_l : ∀ k, (∀ y0 y1 y2 y3 y4, LeO (cr1_Times.l0 k y0 y1 y2 y3 y4) (cr1_Times.l0 (k + 1) y0 y1 y2 y3 y4))
 | 0 => fun _ _ _ _ _ r h => by simp [cr1_Times.l0] at h
 | k + 1 => by
  have ih0 := cr1_Times.mono_l k
  ·intro y0 y1 y2 y3 y4
   unfold cr1_Times.l0
   repeat' first
   | (with_reducible exact ih0 _ _ _ _ _)
   | (with_reducible exact LeO.refl _)
   | (with_reducible exact LeO.none _)
   | (with_reducible refine LeO.ite ?_ ?_)
   | (with_reducible refine LeO.bind ?_ (fun _ => ?_))
   | exact ih0 _ _ _ _ _
   | exact LeO.none _
   | refine LeO.ite ?_ ?_
   | refine LeO.bind ?_ (fun _ => ?_)
theorem cr1_Times.mono : ∀ a0 a1 a2 k, LeO (cr1_Times.f k a0 a1 a2) (cr1_Times.f (k + 1) a0 a1 a2) := by
 intro a0 a1 a2 k
 have ih0 := cr1_Times.mono_l k
 unfold cr1_Times.f
 repeat' first
   | (with_reducible exact ih0 _ _ _ _ _)
   | (with_reducible exact LeO.refl _)
   | (with_reducible exact LeO.none _)
   | (with_reducible refine LeO.ite ?_ ?_)
   | (with_reducible refine LeO.bind ?_ (fun _ => ?_))
   | exact ih0 _ _ _ _ _
   | exact LeO.none _
   | refine LeO.ite ?_ ?_
   | refine LeO.bind ?_ (fun _ => ?_)
set_option maxHeartbeats 8000000 in
set_option maxRecDepth 100000 in
theorem cr1_Times.calls (k : Nat) (a0 : Int) (a1 : Int) (a2 : Int) (r : Int) (w : World) (h : cr1_Times.f k a0 a1 a2 = some r) :
  Calls Try.prog 42 #[.int .u64 a0, .int .u64 a1, .int .u64 a2] w fun e w' => e = .returned (.int .u64 r) ∧ Drawn0 w w' := by
 have H : (cr1_Times.l0 k a0 a1 a2 0 63) = some r := h
 clear h
 have H' := Aside0.mk H
 clear H
 go_enter Try.func42, Try.ntmps42
 go_wp2
 go_loopg [7, 8] k (fun kq v7 v8 w' => ∃ (x7_1 : Int) (x8_1 : Int), v7 = .int .u64 x7_1 ∧ v8 = .int .i64 x8_1 ∧ Aside0 (cr1_Times.l0 kq a0 a1 a2 x7_1 x8_1 = some r) ∧ Aside0 (kq ≤ k) ∧ Drawn0 w w')
 case atStart => exact ⟨(0), (63), (fs_), (fs_), H', ⟨Nat.le_refl _⟩, by repeat (first | exact Drawn0.refl _ | apply Drawn0.step)⟩
 case round =>
  clear H'
  try clear p2
  obtain ⟨x7_1, x8_1, rfl, rfl, HA, HK1, ⟨m1, rfl⟩⟩ := hrel
  cases gk with
  | zero => exact absurd HA.out (by simp [cr1_Times.l0])
  | succ k1 =>
   have H := HA.out
   clear HA
   simp only [cr1_Times.l0] at H
   by_cases c4 : x8_1 ≥ 0
   ·rw [if_pos c4] at H
    have c4b0 : decide (0 ≤ x8_1) = true := decide_eq_true c4
    clear c4
    replace H := Option.bind_eq_some_iff.mp H
    obtain ⟨t477, A50, H⟩ := H
    (try dsimp only at H)
    have A5 := Aside0.mk A50
    clear A50
    obtain ⟨ji6, hji6⟩ : ∃ j_ : Int, (IntKind.u64.wrap (x8_1)) = j_ := ⟨_, rfl⟩
    replace H : (if 0 ≤ (ji6) then (if (Go.bits .and .u64 (shr .u64 a2 (ji6)) 1) = 1 then ((cr1_Sum.f a0 t477 a1).bind fun t478 => (cr1_Times.l0 k1 a0 a1 a2 t478 (wrap64 (x8_1 - 1)))) else (cr1_Times.l0 k1 a0 a1 a2 t477 (wrap64 (x8_1 - 1)))) else (none)) = some r := by first | (rw [hji6] at H; exact H) | (simp only [hji6] at H ⊢; exact H)
    (try rw [hji6] at A5)
    by_cases c7 : 0 ≤ (ji6)
    ·rw [if_pos c7] at H
     have c7b0 := eq_true c7
     have c7b1 : decide (0 ≤ (ji6)) = true := decide_eq_true c7
     clear c7
     obtain ⟨ji8, hji8⟩ : ∃ j_ : Int, (shr .u64 a2 (ji6)) = j_ := ⟨_, rfl⟩
     replace H : (if (Go.bits .and .u64 (ji8) 1) = 1 then ((cr1_Sum.f a0 t477 a1).bind fun t478 => (cr1_Times.l0 k1 a0 a1 a2 t478 (wrap64 (x8_1 - 1)))) else (cr1_Times.l0 k1 a0 a1 a2 t477 (wrap64 (x8_1 - 1)))) = some r := by first | (rw [hji8] at H; exact H) | (simp only [hji8] at H ⊢; exact H)
     (try rw [hji8] at A5)
     have hji8_ : (a2 / 2 ^ min (ji6).toNat 64) = ji8 := hji8
     have hji8z : (ji6) ≤ 64 → (a2 / 2 ^ (ji6).toNat) = ji8 := shr_small hji8
     have HC9 := Aside0.mk H
     clear H
     go_upto_if 22 with (first | ((with_reducible refine gate_callee (f := 41) rfl ?_); refine goesM_ (some 16) Try.func41 #[.int .u64 a0, .int .u64 x7_1, .int .u64 x7_1] ?_; (with_reducible refine (cr1_Sum.calls a0 x7_1 x7_1 t477 _ A5.out).mono ?_); rintro e w' ⟨rfl, ⟨nd, rfl⟩⟩; refine ⟨_, rfl, ?_⟩))
     (try simp only [Act.put, List.setIfInBounds_toArray, List.set_cons_zero, List.set_cons_succ])
     have H := HC9.out
     clear HC9
     by_cases c10 : (Go.bits .and .u64 (ji8) 1) = 1
     ·rw [if_pos c10] at H
      have c10b0 : ((Go.bits .and .u64 (ji8) 1) == 1) = true := beq_iff_eq.mpr c10
      have c10b1 : ((Go.bits .and .u64 (ji8) 1) != 1) = false := bne_eq_false_iff_eq.mpr c10
      clear c10
      (first | rw [c10b0] | rw [c10b1] | (simp only [i64_w, i32_w]; first | rw [c10b0] | rw [c10b1]) | skip)
      replace H := Option.bind_eq_some_iff.mp H
      obtain ⟨t478, A110, H⟩ := H
      replace H : (cr1_Times.l0 k1 a0 a1 a2 t478 (wrap64 (x8_1 - 1))) = some r := H
      have A11 := Aside0.mk A110
      clear A110
      have H' := Aside0.mk H
      clear H
      go_wp2_with (first | ((with_reducible refine gate_callee (f := 41) rfl ?_); refine goesM_ (some 26) Try.func41 #[.int .u64 a0, .int .u64 t477, .int .u64 a1] ?_; (with_reducible refine (cr1_Sum.calls a0 t477 a1 t478 _ A11.out).mono ?_); rintro e w' ⟨rfl, ⟨nd, rfl⟩⟩; refine ⟨_, rfl, ?_⟩))
      go_roundg k1
      case measure => have := HK1.out; omega
      case rel => exact ⟨(t478), (wrap64 (x8_1 - 1)), (fs_), (fs_), H', ⟨by have := HK1.out; omega⟩, by repeat (first | exact Drawn0.refl _ | apply Drawn0.step)⟩
     ·rw [if_neg c10] at H
      have c10b0 : ((Go.bits .and .u64 (ji8) 1) == 1) = false := beq_eq_false_iff_ne.mpr c10
      have c10b1 : ((Go.bits .and .u64 (ji8) 1) != 1) = true := bne_iff_ne.mpr c10
      (first | rw [c10b0] | rw [c10b1] | (simp only [i64_w, i32_w]; first | rw [c10b0] | rw [c10b1]) | skip)
      have H' := Aside0.mk H
      clear H
      go_wp2
      go_roundg k1
      case measure => have := HK1.out; omega
      case rel => exact ⟨(t477), (wrap64 (x8_1 - 1)), (fs_), (fs_), H', ⟨by have := HK1.out; omega⟩, by repeat (first | exact Drawn0.refl _ | apply Drawn0.step)⟩
    ·rw [if_neg c7] at H
     exact absurd H (by simp)
   ·rw [if_neg c4] at H
    have c4b0 : decide (0 ≤ x8_1) = false := decide_eq_false c4
    clear c4
    obtain rfl := Option.some.inj H
    go_wp2
    go_ret
    exact ⟨fs_, by repeat (first | exact Drawn0.refl _ | apply Drawn0.step)⟩
end Go.Proofs.Yteofgcmgncaojaa.PEuclidMade
