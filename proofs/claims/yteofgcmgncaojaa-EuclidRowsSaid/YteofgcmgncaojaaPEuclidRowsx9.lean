/- The Go functions as Lean functions, each with the proof that its call comes to just that; written by a program of this session, by the words of the print. -/
import Derived.Test.YteofgcmgncaojaaPEuclidRowsx0
import Derived.Test.YteofgcmgncaojaaPEuclidRowsx1
import Derived.Test.YteofgcmgncaojaaPEuclidRowsx3
import Derived.Test.YteofgcmgncaojaaPEuclidRowsx4
import Derived.Test.YteofgcmgncaojaaPEuclidRowsx5
import Derived.Test.YteofgcmgncaojaaPEuclidRowsx8
namespace Go.Proofs.Yteofgcmgncaojaa.PEuclidRows
open Go.RowKit Go.Proofs.YteofgcmgncaojaaW.PrintWords Go.Proofs.YteofgcmgncaojaaW.PrintLast Go.Proofs.YteofgcmgncaojaaW.PrintMore
attribute [local go_sem] max2_int min2_int max_two min_two max_three min_three max_four min_four   -- for this text's walks alone
set_option linter.unusedVariables false
set_option linter.unusedSimpArgs false
/-! ### euclid_Modulo: function 12 -/
def euclid_Modulo.j0 : Nat → Int → List Int → Int → Bool → List Int → List Int → List Int → Option (List Int × Bool × Int)
 | 0, _, _, _, _, _, _, _ => none
 | k + 1, x0, x2, x8, x52, x414000, x414001, x414002 => if x52 = true then (some (([] : List Int), false, x8)) else (if 0 < (x414000.length : Int) then ((field_Inv.f k x0 (rd x414000 0)).bind fun bt415 => (if bt415.2 = 0 then ((poly_Scale.f k x0 bt415.1 x414002).bind fun bt417 => (if bt417.2 = 0 then ((poly_DivMod.f k x0 bt417.1 x2).bind fun bt421 => (some (bt421.2.1, (bt421.2.2 == 0), bt421.2.2))) else (some (([] : List Int), false, bt417.2)))) else (some (([] : List Int), false, bt415.2)))) else (none))
def euclid_Modulo.f (k : Nat) (a0 : Int) (l1 : List Int) (l2 : List Int) : Option (List Int × Bool × Int) := (euclid_may.f k a0 (([l1, l2] : List (List Int)))).bind fun t394 => (if t394 = 0 then ((poly_Degree.f k l2).bind fun t395 => (if t395 = (-1) then (some (([] : List Int), false, 5)) else (if t395 = 0 then (some (([] : List Int), true, 0)) else ((poly_DivMod.f k a0 l1 l2).bind fun bt396 => (if bt396.2.2 = 0 then ((euclid_partial.f k a0 l2 bt396.2.1 1).bind fun bt403 => (if bt403.2.2.2 = 0 then (euclid_Modulo.j0 k a0 l2 bt403.2.2.2 ((bt403.1.length : Int) == 0) bt403.1 bt403.2.1 bt403.2.2.1) else (euclid_Modulo.j0 k a0 l2 bt403.2.2.2 true bt403.1 bt403.2.1 bt403.2.2.1))) else (some (([] : List Int), false, bt396.2.2))))))) else (some (([] : List Int), false, t394)))
theorem euclid_Modulo.mono_l : ∀ k, (∀ y0 y1 y2 y3 y4 y5 y6, LeO (euclid_Modulo.j0 k y0 y1 y2 y3 y4 y5 y6) (euclid_Modulo.j0 (k + 1) y0 y1 y2 y3 y4 y5 y6))
 | 0 => fun _ _ _ _ _ _ _ r h => by simp [euclid_Modulo.j0] at h
 | k + 1 => by
  have ih0 := euclid_Modulo.mono_l k
  ·intro y0 y1 y2 y3 y4 y5 y6
   unfold euclid_Modulo.j0
   repeat' first
   | (with_reducible exact ih0 _ _ _ _ _ _ _)
   | (with_reducible exact euclid_may.mono _ _ _)
   | (with_reducible exact euclid_partial.mono _ _ _ _ _)
   | (with_reducible exact field_Inv.mono _ _ _)
   | (with_reducible exact poly_Degree.mono _ _)
   | (with_reducible exact poly_DivMod.mono _ _ _ _)
   | (with_reducible exact poly_Scale.mono _ _ _ _)
   | (with_reducible exact LeO.refl _)
   | (with_reducible exact LeO.none _)
   | (with_reducible refine LeO.ite ?_ ?_)
   | (with_reducible refine LeO.bind ?_ (fun _ => ?_))
   | exact ih0 _ _ _ _ _ _ _
   | exact euclid_may.mono _ _ _
   | exact euclid_partial.mono _ _ _ _ _
   | exact field_Inv.mono _ _ _
   | exact poly_Degree.mono _ _
   | exact poly_DivMod.mono _ _ _ _
   | exact poly_Scale.mono _ _ _ _
   | exact LeO.none _
   | refine LeO.ite ?_ ?_
   | refine LeO.bind ?_ (fun _ => ?_)
theorem euclid_Modulo.mono : ∀ a0 a1 a2 k, LeO (euclid_Modulo.f k a0 a1 a2) (euclid_Modulo.f (k + 1) a0 a1 a2) := by
 intro a0 a1 a2 k
 have ih0 := euclid_Modulo.mono_l k
 unfold euclid_Modulo.f
 repeat' first
   | (with_reducible exact ih0 _ _ _ _ _ _ _)
   | (with_reducible exact euclid_may.mono _ _ _)
   | (with_reducible exact euclid_partial.mono _ _ _ _ _)
   | (with_reducible exact field_Inv.mono _ _ _)
   | (with_reducible exact poly_Degree.mono _ _)
   | (with_reducible exact poly_DivMod.mono _ _ _ _)
   | (with_reducible exact poly_Scale.mono _ _ _ _)
   | (with_reducible exact LeO.refl _)
   | (with_reducible exact LeO.none _)
   | (with_reducible refine LeO.ite ?_ ?_)
   | (with_reducible refine LeO.bind ?_ (fun _ => ?_))
   | exact ih0 _ _ _ _ _ _ _
   | exact euclid_may.mono _ _ _
   | exact euclid_partial.mono _ _ _ _ _
   | exact field_Inv.mono _ _ _
   | exact poly_Degree.mono _ _
   | exact poly_DivMod.mono _ _ _ _
   | exact poly_Scale.mono _ _ _ _
   | exact LeO.none _
   | refine LeO.ite ?_ ?_
   | refine LeO.bind ?_ (fun _ => ?_)
set_option maxHeartbeats 8000000 in
set_option maxRecDepth 100000 in
theorem euclid_Modulo.calls (k : Nat) (a0 : Int) (P1_ : Nat → Prop) (A1 : Option Addr) (c1 : Nat) (l1 : List Int) (P2_ : Nat → Prop) (A2 : Option Addr) (c2 : Nat) (l2 : List Int) (r1 : List Int) (r2 : Bool) (r3 : Int) (w : World) (hs1 : Kd.V (Kd.int .u64) 40 w w.heap.size (fun k_ => P1_ k_) (.slice A1 l1.length c1) l1) (hs2 : Kd.V (Kd.int .u64) 40 w w.heap.size (fun k_ => P2_ k_) (.slice A2 l2.length c2) l2) (h : euclid_Modulo.f k a0 l1 l2 = some (r1, r2, r3)) :
  Calls Try.prog 12 #[.int .u8 a0, .slice A1 l1.length c1, .slice A2 l2.length c2] w fun e w' => ∃ v0_ : Value, e = .returned (.tuple #[v0_, .bool r2, .int .i64 r3]) ∧ Kd.R (Kd.int .u64) 40 w' w.heap.size (fun k_ => (w.heap.size ≤ k_)) v0_ r1 ∧ Below w.heap.size w w' := by
 have hu61 := Try.underlying61
 have HO1 := A_ (show Kd.V (Kd.int .u64) 40 w w.heap.size (fun k_ => ((P1_ k_ ∨ P2_ k_) ∨ w.heap.size ≤ k_)) (.slice A1 l1.length c1) l1 from Kd.V_mono hs1 (fun k_ hk => .inl (.inl hk)))
 have HO2 := A_ (show Kd.V (Kd.int .u64) 40 w w.heap.size (fun k_ => ((P1_ k_ ∨ P2_ k_) ∨ w.heap.size ≤ k_)) (.slice A2 l2.length c2) l2 from Kd.V_mono hs2 (fun k_ hk => .inl (.inr hk)))
 have HB := A_ (Below.refl w.heap.size w)
 have H : ((euclid_may.f k a0 (([l1, l2] : List (List Int)))).bind fun t394 => (if t394 = 0 then ((poly_Degree.f k l2).bind fun t395 => (if t395 = (-1) then (some (([] : List Int), false, 5)) else (if t395 = 0 then (some (([] : List Int), true, 0)) else ((poly_DivMod.f k a0 l1 l2).bind fun bt396 => (if bt396.2.2 = 0 then ((euclid_partial.f k a0 l2 bt396.2.1 1).bind fun bt403 => (if bt403.2.2.2 = 0 then (euclid_Modulo.j0 k a0 l2 bt403.2.2.2 ((bt403.1.length : Int) == 0) bt403.1 bt403.2.1 bt403.2.2.1) else (euclid_Modulo.j0 k a0 l2 bt403.2.2.2 true bt403.1 bt403.2.1 bt403.2.2.1))) else (some (([] : List Int), false, bt396.2.2))))))) else (some (([] : List Int), false, t394)))) = some (r1, r2, r3) := h
 clear h
 obtain ⟨y391, hy391⟩ : ∃ y_ : List (List Int), y_ = (([l1, l2] : List (List Int))) := ⟨_, rfl⟩
 replace H : ((euclid_may.f k a0 y391).bind fun t394 => (if t394 = 0 then ((poly_Degree.f k l2).bind fun t395 => (if t395 = (-1) then (some (([] : List Int), false, 5)) else (if t395 = 0 then (some (([] : List Int), true, 0)) else ((poly_DivMod.f k a0 l1 l2).bind fun bt396 => (if bt396.2.2 = 0 then ((euclid_partial.f k a0 l2 bt396.2.1 1).bind fun bt403 => (if bt403.2.2.2 = 0 then (euclid_Modulo.j0 k a0 l2 bt403.2.2.2 ((bt403.1.length : Int) == 0) bt403.1 bt403.2.1 bt403.2.2.1) else (euclid_Modulo.j0 k a0 l2 bt403.2.2.2 true bt403.1 bt403.2.1 bt403.2.2.1))) else (some (([] : List Int), false, bt396.2.2))))))) else (some (([] : List Int), false, t394)))) = some (r1, r2, r3) := by first | (rw [hy391]; with_reducible exact H) | (have H2_ := (Option.bind_some _ _).symm.trans H; rw [hy391]; with_reducible exact H2_) | (have H2_ := (Option.bind_some _ _).symm.trans H; with_reducible exact H2_) | with_reducible exact H | (rw [hy391]; exact H) | exact H
 have Ny391 := Aside0.mk hy391
 clear hy391
 replace H := Option.bind_eq_some_iff.mp H
 obtain ⟨t394, A40, H⟩ := H
 (try dsimp only at H)
 have A4 := Aside0.mk A40
 clear A40
 have HC5 := Aside0.mk H
 clear H
 go_enter Try.func12, Try.ntmps12
 go_upto_if 19 with (first | ((with_reducible refine gate_dst (N := 16) rfl ?_); (try (refine gate_guard (by rfl) ?_; dsimp only)); refine Kd.N_lit (Kd.slice 40 (Kd.int .u64)) _ 22 ?hg (N' := 16) ?hd (xs := ([l1, l2] : List (List Int))) (inner := [.slice A1 l1.length c1, .slice A2 l2.length c2]) (ok := (fun k_ => ((P1_ k_ ∨ P2_ k_) ∨ w.heap.size ≤ k_))) (okp := (fun k_ => ((P1_ k_ ∨ P2_ k_) ∨ w.heap.size ≤ k_))) ?hr ?hp (fun _ hk => hk) ((show ∀ k_, w.heap.size ≤ k_ → (fun k_ => ((P1_ k_ ∨ P2_ k_) ∨ w.heap.size ≤ k_)) k_ from fun k_ hk => (.inr (Nat.le_trans (below_size hb_) hk))) _ (Nat.le_refl _)) (Below.refl _ _) (Nat.le_refl _) (by simp) ?_; (case hd => rfl); (case hg => rfl); (case hr => first | (go_simp; done) | (go_simp; rfl)); (case hp => exact (Reps.one (show Kd.FK (Kd.slice 40 (Kd.int .u64)) _ _ l1 [.slice A1 l1.length c1] from (Kd.FK_slice_mk (Kd.V_reads' (Kd.V_mono (ok' := (fun k_ => ((P1_ k_ ∨ P2_ k_) ∨ w.heap.size ≤ k_))) (HO1.out) (fun k_ hk => hk))).2.1 (Kd.V_F (Kd.V_mono (ok' := (fun k_ => ((P1_ k_ ∨ P2_ k_) ∨ w.heap.size ≤ k_))) (HO1.out) (fun k_ hk => hk))))) (Reps.one (show Kd.FK (Kd.slice 40 (Kd.int .u64)) _ _ l2 [.slice A2 l2.length c2] from (Kd.FK_slice_mk (Kd.V_reads' (Kd.V_mono (ok' := (fun k_ => ((P1_ k_ ∨ P2_ k_) ∨ w.heap.size ≤ k_))) (HO2.out) (fun k_ hk => hk))).2.1 (Kd.V_F (Kd.V_mono (ok' := (fun k_ => ((P1_ k_ ∨ P2_ k_) ∨ w.heap.size ≤ k_))) (HO2.out) (fun k_ hk => hk))))) (Reps.none _ _)))); intro v392 w6 ho7 hb hg_ hnew_; clear hg_ hnew_; (first | rw [← Ny391.out] at ho7 | (simp only [Int.reduceToNat] at ho7; rw [← Ny391.out] at ho7)); have n0_ := A_ (Kd.V_below (nV_ HO1) hb); have n1_ := A_ (Kd.V_below (nV_ HO2) hb); have n2_ := A_ (Kd.N_lower ho7 (below_size hb_)); have n3_ := A_ (below_step hb_ hb); clear HO1 HO2 HB; have HO1 := n0_; have HO2 := n1_; have HO393 := n2_; have HB := n3_; clear n0_ n1_ n2_ n3_; clear hb ho7; obtain ⟨Ao8, co8, eo8⟩ := Kd.N_slice HO393.out; subst eo8) | ((with_reducible refine gate_callee (f := 27) rfl ?_); refine goesM_ (some 17) Try.func27 #[.int .u8 a0, .slice Ao8 y391.length co8] ?_; (with_reducible refine (euclid_may.calls k a0 _ _ y391 t394 _ ?side1 ?side2 A4.out).mono ?_); (case side1 => repeat (first | exact (Kd.N_reads' HO393.out).2.2 | (with_reducible refine Kd.C_alloc ?_ _) | (with_reducible refine Kd.C_drewN ?_ _) | (with_reducible refine Kd.C_drew ?_))); (case side2 => exact (Kd.N_reads' HO393.out).2.1); rintro e w9 ⟨rfl, hb⟩; refine ⟨_, rfl, ?_⟩; have n0_ := A_ (Kd.V_below (nV_ HO1) hb); have n1_ := A_ (Kd.V_below (nV_ HO2) hb); have n2_ := A_ (Kd.N_below (nN_ HO393) hb); have n3_ := A_ (below_step hb_ hb); clear HO1 HO2 HO393 HB; have HO1 := n0_; have HO2 := n1_; have HO393 := n2_; have HB := n3_; clear n0_ n1_ n2_ n3_; (try clear hb)))
 (try simp only [Act.put, List.setIfInBounds_toArray, List.set_cons_zero, List.set_cons_succ])
 have H := HC5.out
 clear HC5
 by_cases c10 : t394 = 0
 ·rw [if_pos c10] at H
  have c10b0 : (t394 == 0) = true := beq_iff_eq.mpr c10
  have c10b1 : (t394 != 0) = false := bne_eq_false_iff_eq.mpr c10
  clear c10
  (first | rw [c10b0] | rw [c10b1] | (simp only [i64_w, i32_w]; first | rw [c10b0] | rw [c10b1]) | skip)
  replace H := Option.bind_eq_some_iff.mp H
  obtain ⟨t395, A110, H⟩ := H
  (try dsimp only at H)
  have A11 := Aside0.mk A110
  clear A110
  have HC12 := Aside0.mk H
  clear H
  go_upto_if 23 with (first | ((with_reducible refine gate_callee (f := 33) rfl ?_); refine goesM_ (some 22) Try.func33 #[.slice A2 l2.length c2] ?_; (with_reducible refine (poly_Degree.calls k _ _ l2 t395 _ ?side1 ?side2 A11.out).mono ?_); (case side1 => repeat (first | exact (Kd.V_reads' HO2.out).2.2 | (with_reducible refine Kd.C_alloc ?_ _) | (with_reducible refine Kd.C_drewN ?_ _) | (with_reducible refine Kd.C_drew ?_))); (case side2 => exact (Kd.V_reads' HO2.out).2.1); rintro e w13 ⟨rfl, hb⟩; refine ⟨_, rfl, ?_⟩; have n0_ := A_ (Kd.V_below (nV_ HO1) hb); have n1_ := A_ (Kd.V_below (nV_ HO2) hb); have n2_ := A_ (Kd.N_below (nN_ HO393) hb); have n3_ := A_ (below_step hb_ hb); clear HO1 HO2 HO393 HB; have HO1 := n0_; have HO2 := n1_; have HO393 := n2_; have HB := n3_; clear n0_ n1_ n2_ n3_; (try clear hb)))
  (try simp only [Act.put, List.setIfInBounds_toArray, List.set_cons_zero, List.set_cons_succ])
  have H := HC12.out
  clear HC12
  by_cases c14 : t395 = (-1)
  ·rw [if_pos c14] at H
   have c14b0 : (t395 == (-1)) = true := beq_iff_eq.mpr c14
   have c14b1 : (t395 != (-1)) = false := bne_eq_false_iff_eq.mpr c14
   clear c14
   (first | rw [c14b0] | rw [c14b1] | (simp only [i64_w, i32_w]; first | rw [c14b0] | rw [c14b1]) | skip)
   simp only [Option.some.injEq, Prod.mk.injEq] at H
   obtain ⟨rfl, rfl, rfl⟩ := H
   go_wp2
   go_ret3
   exact ⟨_, fr_, by first | exact Kd.R_nil _ _ _ _ _ | exact Kd.N_nil _ _ _ _ _ | exact Kd.V_nil _ _ _ _ _ | exact Kd.Q_nil _ _ _ _ _ | exact Kd.S_nil _ _ _ _ _, hb_⟩
  ·rw [if_neg c14] at H
   have c14b0 : (t395 == (-1)) = false := beq_eq_false_iff_ne.mpr c14
   have c14b1 : (t395 != (-1)) = true := bne_iff_ne.mpr c14
   (first | rw [c14b0] | rw [c14b1] | (simp only [i64_w, i32_w]; first | rw [c14b0] | rw [c14b1]) | skip)
   by_cases c15 : t395 = 0
   ·rw [if_pos c15] at H
    have c15b0 : (t395 == 0) = true := beq_iff_eq.mpr c15
    have c15b1 : (t395 != 0) = false := bne_eq_false_iff_eq.mpr c15
    clear c15
    simp only [Option.some.injEq, Prod.mk.injEq] at H
    obtain ⟨rfl, rfl, rfl⟩ := H
    go_wp2
    go_ret3
    exact ⟨_, fr_, by first | exact Kd.R_nil _ _ _ _ _ | exact Kd.N_nil _ _ _ _ _ | exact Kd.V_nil _ _ _ _ _ | exact Kd.Q_nil _ _ _ _ _ | exact Kd.S_nil _ _ _ _ _, hb_⟩
   ·rw [if_neg c15] at H
    have c15b0 : (t395 == 0) = false := beq_eq_false_iff_ne.mpr c15
    have c15b1 : (t395 != 0) = true := bne_iff_ne.mpr c15
    replace H := Option.bind_eq_some_iff.mp H
    obtain ⟨⟨t396, t399, t402⟩, A160, H⟩ := H
    (try dsimp only at H)
    have A16 := Aside0.mk A160
    clear A160
    have HC17 := Aside0.mk H
    clear H
    go_upto_if 36 with (first | ((with_reducible refine gate_callee (f := 29) rfl ?_); refine goesM_ (some 31) Try.func29 #[.int .u8 a0, .slice A1 l1.length c1, .slice A2 l2.length c2] ?_; (with_reducible refine (poly_DivMod.calls k a0 (fun k_ => ((P1_ k_ ∨ P2_ k_) ∨ w.heap.size ≤ k_)) _ _ l1 (fun k_ => ((P1_ k_ ∨ P2_ k_) ∨ w.heap.size ≤ k_)) _ _ l2 t396 t399 t402 _ ?side1 ?side2 A16.out).mono ?_); (case side1 => exact HO1.out); (case side2 => exact HO2.out); rintro e w18 ⟨v397, v400, rfl, ho0, ho1, hb⟩; refine ⟨_, rfl, ?_⟩; have n0_ := A_ (Kd.V_below (nV_ HO1) hb); have n1_ := A_ (Kd.V_below (nV_ HO2) hb); have n2_ := A_ (Kd.N_below (nN_ HO393) hb); have n3_ := A_ (Kd.R_lower (Kd.R_newM (M := fun k_ => (w.heap.size ≤ k_)) (Kd.R_mono (ok' := fun k_ => True) ho0 (fun _ hk_ => trivial)) (below_size hb_) (fun k_ h_ => h_)) (below_size hb_)); have n4_ := A_ (Kd.R_lower (Kd.R_newM (M := fun k_ => (w.heap.size ≤ k_)) (Kd.R_mono (ok' := fun k_ => True) ho1 (fun _ hk_ => trivial)) (below_size hb_) (fun k_ h_ => h_)) (below_size hb_)); have n5_ := A_ (below_step hb_ hb); clear HO1 HO2 HO393 HB; have HO1 := n0_; have HO2 := n1_; have HO393 := n2_; have HO398 := n3_; have HO401 := n4_; have HB := n5_; clear n0_ n1_ n2_ n3_ n4_ n5_; (try clear hb); (try clear ho0); (try clear ho1)))
    (try simp only [Act.put, List.setIfInBounds_toArray, List.set_cons_zero, List.set_cons_succ])
    have H := HC17.out
    clear HC17
    by_cases c19 : t402 = 0
    ·rw [if_pos c19] at H
     have c19b0 : (t402 == 0) = true := beq_iff_eq.mpr c19
     have c19b1 : (t402 != 0) = false := bne_eq_false_iff_eq.mpr c19
     clear c19
     (first | rw [c19b0] | rw [c19b1] | (simp only [i64_w, i32_w]; first | rw [c19b0] | rw [c19b1]) | skip)
     replace H := Option.bind_eq_some_iff.mp H
     obtain ⟨⟨t403, t406, t409, t412⟩, A200, H⟩ := H
     replace H : (if t412 = 0 then (euclid_Modulo.j0 k a0 l2 t412 ((t403.length : Int) == 0) t403 t406 t409) else (euclid_Modulo.j0 k a0 l2 t412 true t403 t406 t409)) = some (r1, r2, r3) := H
     have A20 := Aside0.mk A200
     clear A200
     have HC21 := Aside0.mk H
     clear H
     obtain ⟨Ao22, co22, eo22⟩ := Kd.R_slice HO401.out
     subst eo22
     go_upto_region 13 with (first | ((with_reducible refine gate_callee (f := 34) rfl ?_); refine goesM_ (some 42) Try.func34 #[.int .u8 a0, .slice A2 l2.length c2, .slice Ao22 t399.length co22, .int .i64 1] ?_; (with_reducible refine (euclid_partial.calls k a0 _ _ l2 _ _ t399 1 t403 t406 t409 t412 _ ?side1 ?side2 ?side3 ?side4 A20.out).mono ?_); (case side1 => repeat (first | exact (Kd.V_reads' HO2.out).2.2 | (with_reducible refine Kd.C_alloc ?_ _) | (with_reducible refine Kd.C_drewN ?_ _) | (with_reducible refine Kd.C_drew ?_))); (case side2 => exact (Kd.V_reads' HO2.out).2.1); (case side3 => repeat (first | exact (Kd.R_reads' HO401.out).2.2 | (with_reducible refine Kd.C_alloc ?_ _) | (with_reducible refine Kd.C_drewN ?_ _) | (with_reducible refine Kd.C_drew ?_))); (case side4 => exact (Kd.R_reads' HO401.out).2.1); rintro e w23 ⟨v404, v407, v410, rfl, ho0, ho1, ho2, hb⟩; refine ⟨_, rfl, ?_⟩; have n0_ := A_ (Kd.V_below (nV_ HO1) hb); have n1_ := A_ (Kd.V_below (nV_ HO2) hb); have n2_ := A_ (Kd.N_below (nN_ HO393) hb); have n3_ := A_ (Kd.R_below (nR_ HO398) hb); have n4_ := A_ (Kd.R_below (nR_ HO401) hb); have n5_ := A_ (Kd.R_lower (Kd.R_newM (M := fun k_ => (w.heap.size ≤ k_)) (Kd.R_mono (ok' := fun _ => True) ho0 (fun _ _ => trivial)) (below_size hb_) (fun k_ h_ => h_)) (below_size hb_)); have n6_ := A_ (Kd.R_lower (Kd.R_newM (M := fun k_ => (w.heap.size ≤ k_)) (Kd.R_mono (ok' := fun _ => True) ho1 (fun _ _ => trivial)) (below_size hb_) (fun k_ h_ => h_)) (below_size hb_)); have n7_ := A_ (Kd.R_lower (Kd.R_newM (M := fun k_ => (w.heap.size ≤ k_)) (Kd.R_mono (ok' := fun _ => True) ho2 (fun _ _ => trivial)) (below_size hb_) (fun k_ h_ => h_)) (below_size hb_)); have n8_ := A_ (below_step hb_ hb); clear HO1 HO2 HO393 HO398 HO401 HB; have HO1 := n0_; have HO2 := n1_; have HO393 := n2_; have HO398 := n3_; have HO401 := n4_; have HO405 := n5_; have HO408 := n6_; have HO411 := n7_; have HB := n8_; clear n0_ n1_ n2_ n3_ n4_ n5_ n6_ n7_ n8_; (try clear hb); (try clear ho0); (try clear ho1); (try clear ho2)) | ((with_reducible refine gate_dst (N := 11) rfl ?_); (try (refine gate_guard (by rfl) ?_; dsimp only)); refine box_event ?hg (N := 11) ?hd (cs := #[.slice none 0 0, .slice none 0 0, .slice none 0 0]) (t := 61) ?hr ?_; (case hd => rfl); (case hg => rfl); (case hr => first | (go_simp; done) | (go_simp; rfl)); intro gb413 hg w24 hbox hb; have n0_ := A_ (Kd.V_below (Kd.V_elderB (nV_ HO1) gb413 (Nat.le_of_eq hg.symm)) hb); have n1_ := A_ (Kd.V_below (Kd.V_elderB (nV_ HO2) gb413 (Nat.le_of_eq hg.symm)) hb); have n2_ := A_ (Kd.N_below (Kd.N_elderB (nN_ HO393) gb413 (Nat.le_of_eq hg.symm)) hb); have n3_ := A_ (Kd.R_below (nR_ HO398) hb); have n4_ := A_ (Kd.R_below (nR_ HO401) hb); have n5_ := A_ (Kd.R_below (nR_ HO405) hb); have n6_ := A_ (Kd.R_below (nR_ HO408) hb); have n7_ := A_ (Kd.R_below (nR_ HO411) hb); have n8_ := A_ (below_step hb_ hb); have n9_ := A_ (hbox); have n10_ := A_ ((by rw [hg]; exact (below_size hb_) : w.heap.size ≤ gb413)); have n11_ := A_ ((by rw [hg]; exact (below_size hb_) : w.heap.size ≤ gb413)); clear HO1 HO2 HO393 HO398 HO401 HO405 HO408 HO411 HB; have HO1 := n0_; have HO2 := n1_; have HO393 := n2_; have HO398 := n3_; have HO401 := n4_; have HO405 := n5_; have HO408 := n6_; have HO411 := n7_; have HB := n8_; have BK413 := n9_; have GW413 := n10_; have GE413 := n11_; clear n0_ n1_ n2_ n3_ n4_ n5_ n6_ n7_ n8_ n9_ n10_ n11_; clear hb hbox hg; obtain ⟨Ao25, co25, eo25⟩ := Kd.R_slice HO405.out; subst eo25; have hcz26_0 : w24.cell? ⟨gb413, 0, none⟩ = some (.slice none 0 0) := (blk_cell BK413.out 0).trans rfl; have hcz26_1 : w24.cell? ⟨gb413, 1, none⟩ = some (.slice none 0 0) := (blk_cell BK413.out 1).trans rfl; have hcz26_2 : w24.cell? ⟨gb413, 2, none⟩ = some (.slice none 0 0) := (blk_cell BK413.out 2).trans rfl; have hfz26_0 := blk_frozen BK413.out 0; have hfz26_1 := blk_frozen BK413.out 1; have hfz26_2 := blk_frozen BK413.out 2; obtain ⟨Ao27, co27, eo27⟩ := Kd.R_slice HO408.out; subst eo27; obtain ⟨Ao28, co28, eo28⟩ := Kd.R_slice HO411.out; subst eo28))
     (try simp only [Act.put, List.setIfInBounds_toArray, List.set_cons_zero, List.set_cons_succ])
     go_cut [52] (fun v52 wc => ∃ (kq : Nat) (x52_20 : Bool), v52 = .bool x52_20 ∧ Aside0 (euclid_Modulo.j0 kq a0 l2 t412 x52_20 t403 t406 t409 = some (r1, r2, r3)) ∧ Aside0 (kq ≤ k) ∧ Aside0 (Kd.V (Kd.int .u64) 40 wc w.heap.size (fun k_ => ((P1_ k_ ∨ P2_ k_) ∨ w.heap.size ≤ k_) ∧ k_ ≠ gb413) (.slice A2 l2.length c2) l2) ∧ Aside0 (Kd.R (Kd.int .u64) 40 wc w.heap.size (fun k_ => (w.heap.size ≤ k_)) (.slice Ao25 t403.length co25) t403) ∧ Aside0 (Kd.R (Kd.int .u64) 40 wc w.heap.size (fun k_ => (w.heap.size ≤ k_)) (.slice Ao27 t406.length co27) t406) ∧ Aside0 (Kd.R (Kd.int .u64) 40 wc w.heap.size (fun k_ => (w.heap.size ≤ k_)) (.slice Ao28 t409.length co28) t409) ∧ Aside0 (wc.heap[gb413]? = some (.cells #[(.slice Ao25 t403.length co25), (.slice Ao27 t406.length co27), (.slice Ao28 t409.length co28)] 61 (0, 0))) ∧ Aside0 (Below w.heap.size w wc))
     case first =>
      have H := HC21.out
      clear HC21
      by_cases c29 : t412 = 0
      ·rw [if_pos c29] at H
       have c29b0 : (t412 == 0) = true := beq_iff_eq.mpr c29
       have c29b1 : (t412 != 0) = false := bne_eq_false_iff_eq.mpr c29
       clear c29
       (first | rw [c29b0] | rw [c29b1] | (simp only [i64_w, i32_w]; first | rw [c29b0] | rw [c29b1]) | skip)
       have H' := Aside0.mk H
       clear H
       have hcz30_0 : w24.cell? ⟨gb413, 0, none⟩ = some (.slice none 0 0) := (blk_cell BK413.out 0).trans rfl
       have hcz30_1 : w24.cell? ⟨gb413, 1, none⟩ = some (.slice none 0 0) := (blk_cell BK413.out 1).trans rfl
       have hcz30_2 : w24.cell? ⟨gb413, 2, none⟩ = some (.slice none 0 0) := (blk_cell BK413.out 2).trans rfl
       have hfz30_0 := blk_frozen BK413.out 0
       have hfz30_1 := blk_frozen BK413.out 1
       have hfz30_2 := blk_frozen BK413.out 2
       go_wp2
       go_meet
       case rel => exact ⟨_, (((t403.length : Int) == 0)), (fs_), H', ⟨fo_⟩, ⟨by (with_reducible repeat (first | apply Kd.V_alloc | apply Kd.V_drewN | apply Kd.V_drew)); exact Kd.V_mono (Kd.V_far (p := ⟨gb413, 2, none⟩) (Kd.V_far (p := ⟨gb413, 1, none⟩) (Kd.V_far (p := ⟨gb413, 0, none⟩) (Kd.V_mono HO2.out (fun k_ hk => (⟨hk, hk.2⟩ : _ ∧ k_ ≠ gb413))) (fun _ hk => hk.2) (.slice Ao25 t403.length co25)) (fun _ hk => hk.2) (.slice Ao27 t406.length co27)) (fun _ hk => hk.2) (.slice Ao28 t409.length co28)) (fun _ hk => ⟨hk.1.1, hk.1.2⟩)⟩, ⟨by (with_reducible repeat (first | apply Kd.R_alloc | apply Kd.R_drewN | apply Kd.R_drew)); exact Kd.R_mono (Kd.R_far (p := ⟨gb413, 2, none⟩) (Kd.R_far (p := ⟨gb413, 1, none⟩) (Kd.R_far (p := ⟨gb413, 0, none⟩) (Kd.R_types HO405.out BK413.out (by decide)) (fun _ hk => hk.2) (.slice Ao25 t403.length co25)) (fun _ hk => hk.2) (.slice Ao27 t406.length co27)) (fun _ hk => hk.2) (.slice Ao28 t409.length co28)) (fun _ hk => hk.1.1)⟩, ⟨by (with_reducible repeat (first | apply Kd.R_alloc | apply Kd.R_drewN | apply Kd.R_drew)); exact Kd.R_mono (Kd.R_far (p := ⟨gb413, 2, none⟩) (Kd.R_far (p := ⟨gb413, 1, none⟩) (Kd.R_far (p := ⟨gb413, 0, none⟩) (Kd.R_types HO408.out BK413.out (by decide)) (fun _ hk => hk.2) (.slice Ao25 t403.length co25)) (fun _ hk => hk.2) (.slice Ao27 t406.length co27)) (fun _ hk => hk.2) (.slice Ao28 t409.length co28)) (fun _ hk => hk.1.1)⟩, ⟨by (with_reducible repeat (first | apply Kd.R_alloc | apply Kd.R_drewN | apply Kd.R_drew)); exact Kd.R_mono (Kd.R_far (p := ⟨gb413, 2, none⟩) (Kd.R_far (p := ⟨gb413, 1, none⟩) (Kd.R_far (p := ⟨gb413, 0, none⟩) (Kd.R_types HO411.out BK413.out (by decide)) (fun _ hk => hk.2) (.slice Ao25 t403.length co25)) (fun _ hk => hk.2) (.slice Ao27 t406.length co27)) (fun _ hk => hk.2) (.slice Ao28 t409.length co28)) (fun _ hk => hk.1.1)⟩, ⟨by (with_reducible repeat (first | refine blk_drewN ?_ _ | refine blk_drew ?_ | refine blk_alloc ?_ _)); refine blk_put (cs := #[.slice Ao25 t403.length co25, .slice Ao27 t406.length co27, .slice none 0 0]) ?_ 2 _ rfl; (with_reducible repeat (first | refine blk_drewN ?_ _ | refine blk_drew ?_ | refine blk_alloc ?_ _)); refine blk_put (cs := #[.slice Ao25 t403.length co25, .slice none 0 0, .slice none 0 0]) ?_ 1 _ rfl; (with_reducible repeat (first | refine blk_drewN ?_ _ | refine blk_drew ?_ | refine blk_alloc ?_ _)); refine blk_put (cs := #[.slice none 0 0, .slice none 0 0, .slice none 0 0]) ?_ 0 _ rfl; (with_reducible repeat (first | refine blk_drewN ?_ _ | refine blk_drew ?_ | refine blk_alloc ?_ _)); exact BK413.out⟩, ⟨hs_⟩⟩
      ·rw [if_neg c29] at H
       have c29b0 : (t412 == 0) = false := beq_eq_false_iff_ne.mpr c29
       have c29b1 : (t412 != 0) = true := bne_iff_ne.mpr c29
       (first | rw [c29b0] | rw [c29b1] | (simp only [i64_w, i32_w]; first | rw [c29b0] | rw [c29b1]) | skip)
       have H' := Aside0.mk H
       clear H
       go_wp2
       go_meet
       case rel => exact ⟨_, (true), (fs_), H', ⟨fo_⟩, ⟨by (with_reducible repeat (first | apply Kd.V_alloc | apply Kd.V_drewN | apply Kd.V_drew)); exact Kd.V_mono (Kd.V_far (p := ⟨gb413, 2, none⟩) (Kd.V_far (p := ⟨gb413, 1, none⟩) (Kd.V_far (p := ⟨gb413, 0, none⟩) (Kd.V_mono HO2.out (fun k_ hk => (⟨hk, hk.2⟩ : _ ∧ k_ ≠ gb413))) (fun _ hk => hk.2) (.slice Ao25 t403.length co25)) (fun _ hk => hk.2) (.slice Ao27 t406.length co27)) (fun _ hk => hk.2) (.slice Ao28 t409.length co28)) (fun _ hk => ⟨hk.1.1, hk.1.2⟩)⟩, ⟨by (with_reducible repeat (first | apply Kd.R_alloc | apply Kd.R_drewN | apply Kd.R_drew)); exact Kd.R_mono (Kd.R_far (p := ⟨gb413, 2, none⟩) (Kd.R_far (p := ⟨gb413, 1, none⟩) (Kd.R_far (p := ⟨gb413, 0, none⟩) (Kd.R_types HO405.out BK413.out (by decide)) (fun _ hk => hk.2) (.slice Ao25 t403.length co25)) (fun _ hk => hk.2) (.slice Ao27 t406.length co27)) (fun _ hk => hk.2) (.slice Ao28 t409.length co28)) (fun _ hk => hk.1.1)⟩, ⟨by (with_reducible repeat (first | apply Kd.R_alloc | apply Kd.R_drewN | apply Kd.R_drew)); exact Kd.R_mono (Kd.R_far (p := ⟨gb413, 2, none⟩) (Kd.R_far (p := ⟨gb413, 1, none⟩) (Kd.R_far (p := ⟨gb413, 0, none⟩) (Kd.R_types HO408.out BK413.out (by decide)) (fun _ hk => hk.2) (.slice Ao25 t403.length co25)) (fun _ hk => hk.2) (.slice Ao27 t406.length co27)) (fun _ hk => hk.2) (.slice Ao28 t409.length co28)) (fun _ hk => hk.1.1)⟩, ⟨by (with_reducible repeat (first | apply Kd.R_alloc | apply Kd.R_drewN | apply Kd.R_drew)); exact Kd.R_mono (Kd.R_far (p := ⟨gb413, 2, none⟩) (Kd.R_far (p := ⟨gb413, 1, none⟩) (Kd.R_far (p := ⟨gb413, 0, none⟩) (Kd.R_types HO411.out BK413.out (by decide)) (fun _ hk => hk.2) (.slice Ao25 t403.length co25)) (fun _ hk => hk.2) (.slice Ao27 t406.length co27)) (fun _ hk => hk.2) (.slice Ao28 t409.length co28)) (fun _ hk => hk.1.1)⟩, ⟨by (with_reducible repeat (first | refine blk_drewN ?_ _ | refine blk_drew ?_ | refine blk_alloc ?_ _)); refine blk_put (cs := #[.slice Ao25 t403.length co25, .slice Ao27 t406.length co27, .slice none 0 0]) ?_ 2 _ rfl; (with_reducible repeat (first | refine blk_drewN ?_ _ | refine blk_drew ?_ | refine blk_alloc ?_ _)); refine blk_put (cs := #[.slice Ao25 t403.length co25, .slice none 0 0, .slice none 0 0]) ?_ 1 _ rfl; (with_reducible repeat (first | refine blk_drewN ?_ _ | refine blk_drew ?_ | refine blk_alloc ?_ _)); refine blk_put (cs := #[.slice none 0 0, .slice none 0 0, .slice none 0 0]) ?_ 0 _ rfl; (with_reducible repeat (first | refine blk_drewN ?_ _ | refine blk_drew ?_ | refine blk_alloc ?_ _)); exact BK413.out⟩, ⟨hs_⟩⟩
     case rest =>
      clear HC21
      try clear c1
      try clear c2
      try clear p2
      try clear c3
      try clear c10
      try clear c10b0
      try clear c10b1
      try clear c12
      try clear c14
      try clear c14b0
      try clear c14b1
      try clear c15
      try clear c15b0
      try clear c15b1
      try clear c19
      try clear c19b0
      try clear c19b1
      try clear c27
      try clear c29
      try clear c29b0
      try clear c29b1
      try clear hcz26_0
      try clear hcz26_1
      try clear hcz26_2
      try clear hcz30_0
      try clear hcz30_1
      try clear hcz30_2
      try clear hfz26_0
      try clear hfz26_1
      try clear hfz26_2
      try clear hfz30_0
      try clear hfz30_1
      try clear hfz30_2
      obtain ⟨kq, x52_20, rfl, HA, HJ20, HO_2, HO_414000, HO_414001, HO_414002, BK413, HB⟩ := hcut
      cases kq with
      | zero => exact absurd HA.out (by simp [euclid_Modulo.j0])
      | succ kj20 =>
       have H := HA.out
       clear HA
       simp only [euclid_Modulo.j0] at H
       by_cases c31 : x52_20 = true
       ·subst c31
        have H1 : (some (([] : List Int), false, t412)) = some (r1, r2, r3) := by rw [if_pos rfl] at H; exact H
        clear H
        have H := H1
        clear H1
        simp only [Option.some.injEq, Prod.mk.injEq] at H
        obtain ⟨rfl, rfl, rfl⟩ := H
        go_wp2
        go_ret3
        exact ⟨_, fr_, by first | exact Kd.R_nil _ _ _ _ _ | exact Kd.N_nil _ _ _ _ _ | exact Kd.V_nil _ _ _ _ _ | exact Kd.Q_nil _ _ _ _ _ | exact Kd.S_nil _ _ _ _ _, hs_⟩
       ·replace c31 := Bool.eq_false_iff.mpr c31
        subst c31
        have H1 : (if 0 < (t403.length : Int) then ((field_Inv.f kj20 a0 (rd t403 0)).bind fun bt415 => (if bt415.2 = 0 then ((poly_Scale.f kj20 a0 bt415.1 t409).bind fun bt417 => (if bt417.2 = 0 then ((poly_DivMod.f kj20 a0 bt417.1 l2).bind fun bt421 => (some (bt421.2.1, (bt421.2.2 == 0), bt421.2.2))) else (some (([] : List Int), false, bt417.2)))) else (some (([] : List Int), false, bt415.2)))) else (none)) = some (r1, r2, r3) := by rw [if_neg (show ¬ (false = true) by decide)] at H; exact H
        clear H
        have H := H1
        clear H1
        by_cases c32 : 0 < (t403.length : Int)
        ·rw [if_pos c32] at H
         have c32b0 : decide (0 < (t403.length : Int)) = true := decide_eq_true c32
         have c32b1 : decide (0 < t403.length) = true := decide_eq_true (by omega)
         clear c32
         replace H := Option.bind_eq_some_iff.mp H
         obtain ⟨⟨t415, t416⟩, A330, H⟩ := H
         replace H : (if t416 = 0 then ((poly_Scale.f kj20 a0 t415 t409).bind fun bt417 => (if bt417.2 = 0 then ((poly_DivMod.f kj20 a0 bt417.1 l2).bind fun bt421 => (some (bt421.2.1, (bt421.2.2 == 0), bt421.2.2))) else (some (([] : List Int), false, bt417.2)))) else (some (([] : List Int), false, t416))) = some (r1, r2, r3) := H
         have A33 := Aside0.mk A330
         clear A330
         have HC34 := Aside0.mk H
         clear H
         have hcz35_0 : wc.cell? ⟨gb413, 0, none⟩ = some (.slice Ao25 t403.length co25) := (blk_cell BK413.out 0).trans rfl
         have hcz35_1 : wc.cell? ⟨gb413, 1, none⟩ = some (.slice Ao27 t406.length co27) := (blk_cell BK413.out 1).trans rfl
         have hcz35_2 : wc.cell? ⟨gb413, 2, none⟩ = some (.slice Ao28 t409.length co28) := (blk_cell BK413.out 2).trans rfl
         have hfz35_0 := blk_frozen BK413.out 0
         have hfz35_1 := blk_frozen BK413.out 1
         have hfz35_2 := blk_frozen BK413.out 2
         have p414 : 0 ≤ (0 : Int) := (by omega)
         have q414 : 0 < (t403.length : Int) := of_decide_eq_true (by first | (with_reducible assumption) | assumption)
         obtain ⟨ad414, e414, hx414_0⟩ := Kd.at_int (Kd.R_reads' HO_414000.out).2.2 0 p414 q414
         cases e414
         have qi414 : (0 < t403.length) = True := eq_true (by omega)
         (try rw [show ((0 : Int)).toNat = 0 from rfl] at hx414_0)
         (try rw [Addr.add_zero'] at hx414_0)
         replace p414 := eq_true p414
         replace q414 := eq_true q414
         go_upto_if 64 with (first | ((with_reducible refine gate_callee (f := 35) rfl ?_); refine goesM_ (some 60) Try.func35 #[.int .u8 a0, .int .u64 (rd t403 0)] ?_; (with_reducible refine (field_Inv.calls kj20 a0 (rd t403 0) t415 t416 _ A33.out).mono ?_); rintro e w36 ⟨rfl, hb⟩; refine ⟨_, rfl, ?_⟩; have n0_ := A_ (Kd.V_below (nV_ HO_2) hb); have n1_ := A_ (Kd.R_below (nR_ HO_414000) hb); have n2_ := A_ (Kd.R_below (nR_ HO_414001) hb); have n3_ := A_ (Kd.R_below (nR_ HO_414002) hb); have n4_ := A_ (blk_below (g := gb413) (o := .cells #[.slice (some ad414) t403.length co25, .slice Ao27 t406.length co27, .slice Ao28 t409.length co28] 61 (0, 0)) (nb_ BK413) hb); have n5_ := A_ (below_step hs_ hb); clear HO_2 HO_414000 HO_414001 HO_414002 BK413 HB; have HO_2 := n0_; have HO_414000 := n1_; have HO_414001 := n2_; have HO_414002 := n3_; have BK413 := n4_; have HB := n5_; clear n0_ n1_ n2_ n3_ n4_ n5_; (try clear hb)))
         (try simp only [Act.put, List.setIfInBounds_toArray, List.set_cons_zero, List.set_cons_succ])
         have H := HC34.out
         clear HC34
         by_cases c37 : t416 = 0
         ·rw [if_pos c37] at H
          have c37b0 : (t416 == 0) = true := beq_iff_eq.mpr c37
          have c37b1 : (t416 != 0) = false := bne_eq_false_iff_eq.mpr c37
          clear c37
          (first | rw [c37b0] | rw [c37b1] | (simp only [i64_w, i32_w]; first | rw [c37b0] | rw [c37b1]) | skip)
          replace H := Option.bind_eq_some_iff.mp H
          obtain ⟨⟨t417, t418⟩, A380, H⟩ := H
          replace H : (if t418 = 0 then ((poly_DivMod.f kj20 a0 t417 l2).bind fun bt421 => (some (bt421.2.1, (bt421.2.2 == 0), bt421.2.2))) else (some (([] : List Int), false, t418))) = some (r1, r2, r3) := H
          have A38 := Aside0.mk A380
          clear A380
          have HC39 := Aside0.mk H
          clear H
          have hcz40_0 : w36.cell? ⟨gb413, 0, none⟩ = some (.slice (some ad414) t403.length co25) := (blk_cell BK413.out 0).trans rfl
          have hcz40_1 : w36.cell? ⟨gb413, 1, none⟩ = some (.slice Ao27 t406.length co27) := (blk_cell BK413.out 1).trans rfl
          have hcz40_2 : w36.cell? ⟨gb413, 2, none⟩ = some (.slice Ao28 t409.length co28) := (blk_cell BK413.out 2).trans rfl
          have hfz40_0 := blk_frozen BK413.out 0
          have hfz40_1 := blk_frozen BK413.out 1
          have hfz40_2 := blk_frozen BK413.out 2
          go_upto_if 75 with (first | ((with_reducible refine gate_callee (f := 36) rfl ?_); refine goesM_ (some 71) Try.func36 #[.int .u8 a0, .int .u64 t415, .slice Ao28 t409.length co28] ?_; (with_reducible refine (poly_Scale.calls kj20 a0 t415 _ _ t409 t417 t418 _ ?side1 ?side2 A38.out).mono ?_); (case side1 => repeat (first | exact (Kd.R_reads' HO_414002.out).2.2 | (with_reducible refine Kd.C_alloc ?_ _) | (with_reducible refine Kd.C_drewN ?_ _) | (with_reducible refine Kd.C_drew ?_))); (case side2 => exact (Kd.R_reads' HO_414002.out).2.1); rintro e w41 ⟨v419, rfl, ho0, hb⟩; refine ⟨_, rfl, ?_⟩; have n0_ := A_ (Kd.V_below (nV_ HO_2) hb); have n1_ := A_ (Kd.R_below (nR_ HO_414000) hb); have n2_ := A_ (Kd.R_below (nR_ HO_414001) hb); have n3_ := A_ (Kd.R_below (nR_ HO_414002) hb); have n4_ := A_ (Kd.R_lower (Kd.R_newM (M := fun k_ => (w.heap.size ≤ k_)) (Kd.R_mono (ok' := fun _ => True) ho0 (fun _ _ => trivial)) (below_size hs_) (fun k_ h_ => h_)) (below_size hs_)); have n5_ := A_ (blk_below (g := gb413) (o := .cells #[.slice (some ad414) t403.length co25, .slice Ao27 t406.length co27, .slice Ao28 t409.length co28] 61 (0, 0)) (nb_ BK413) hb); have n6_ := A_ (below_step hs_ hb); clear HO_2 HO_414000 HO_414001 HO_414002 BK413 HB; have HO_2 := n0_; have HO_414000 := n1_; have HO_414001 := n2_; have HO_414002 := n3_; have HO420 := n4_; have BK413 := n5_; have HB := n6_; clear n0_ n1_ n2_ n3_ n4_ n5_ n6_; (try clear hb); (try clear ho0)))
          (try simp only [Act.put, List.setIfInBounds_toArray, List.set_cons_zero, List.set_cons_succ])
          have H := HC39.out
          clear HC39
          by_cases c42 : t418 = 0
          ·rw [if_pos c42] at H
           have c42b0 : (t418 == 0) = true := beq_iff_eq.mpr c42
           have c42b1 : (t418 != 0) = false := bne_eq_false_iff_eq.mpr c42
           clear c42
           (first | rw [c42b0] | rw [c42b1] | (simp only [i64_w, i32_w]; first | rw [c42b0] | rw [c42b1]) | skip)
           replace H := Option.bind_eq_some_iff.mp H
           obtain ⟨⟨t421, t424, t427⟩, A430, H⟩ := H
           replace H : (some (t424, (t427 == 0), t427)) = some (r1, r2, r3) := H
           have A43 := Aside0.mk A430
           clear A430
           simp only [Option.some.injEq, Prod.mk.injEq] at H
           obtain ⟨rfl, rfl, rfl⟩ := H
           obtain ⟨Ao44, co44, eo44⟩ := Kd.R_slice HO420.out
           subst eo44
           go_wp2_with (first | ((with_reducible refine gate_callee (f := 29) rfl ?_); refine goesM_ (some 81) Try.func29 #[.int .u8 a0, .slice Ao44 t417.length co44, .slice A2 l2.length c2] ?_; (with_reducible refine (poly_DivMod.calls kj20 a0 (fun k_ => some k_ = (.slice Ao44 t417.length co44 : Value).ownBlock) _ _ t417 (fun k_ => (((P1_ k_ ∨ P2_ k_) ∨ w.heap.size ≤ k_) ∧ k_ ≠ gb413)) _ _ l2 t421 t424 t427 _ ?side1 ?side2 A43.out).mono ?_); (case side1 => exact Kd.R_V (Kd.R_tight rfl (HO420.out))); (case side2 => exact HO_2.out); rintro e w45 ⟨v422, v425, rfl, ho0, ho1, hb⟩; refine ⟨_, rfl, ?_⟩; have n0_ := A_ (Kd.V_below (nV_ HO_2) hb); have n1_ := A_ (Kd.R_below (nR_ HO_414000) hb); have n2_ := A_ (Kd.R_below (nR_ HO_414001) hb); have n3_ := A_ (Kd.R_below (nR_ HO_414002) hb); have n4_ := A_ (Kd.R_below (nR_ HO420) hb); have n5_ := A_ (Kd.R_lower (Kd.R_newM (M := fun k_ => (w.heap.size ≤ k_)) (Kd.R_mono (ok' := fun k_ => True) ho0 (fun _ hk_ => trivial)) (below_size hs_) (fun k_ h_ => h_)) (below_size hs_)); have n6_ := A_ (Kd.R_lower (Kd.R_newM (M := fun k_ => (w.heap.size ≤ k_)) (Kd.R_mono (ok' := fun k_ => True) ho1 (fun _ hk_ => trivial)) (below_size hs_) (fun k_ h_ => h_)) (below_size hs_)); have n7_ := A_ (blk_below (g := gb413) (o := .cells #[.slice (some ad414) t403.length co25, .slice Ao27 t406.length co27, .slice Ao28 t409.length co28] 61 (0, 0)) (nb_ BK413) hb); have n8_ := A_ (below_step hs_ hb); clear HO_2 HO_414000 HO_414001 HO_414002 HO420 BK413 HB; have HO_2 := n0_; have HO_414000 := n1_; have HO_414001 := n2_; have HO_414002 := n3_; have HO420 := n4_; have HO423 := n5_; have HO426 := n6_; have BK413 := n7_; have HB := n8_; clear n0_ n1_ n2_ n3_ n4_ n5_ n6_ n7_ n8_; (try clear hb); (try clear ho0); (try clear ho1)))
           go_ret3
           exact ⟨_, fr_, by (with_reducible repeat (first | apply Kd.R_alloc | apply Kd.R_drewN | apply Kd.R_drew)); exact Kd.R_mono HO426.out (fun _ hk => hk.1), hs_⟩
          ·rw [if_neg c42] at H
           have c42b0 : (t418 == 0) = false := beq_eq_false_iff_ne.mpr c42
           have c42b1 : (t418 != 0) = true := bne_iff_ne.mpr c42
           (first | rw [c42b0] | rw [c42b1] | (simp only [i64_w, i32_w]; first | rw [c42b0] | rw [c42b1]) | skip)
           simp only [Option.some.injEq, Prod.mk.injEq] at H
           obtain ⟨rfl, rfl, rfl⟩ := H
           go_wp2
           go_ret3
           exact ⟨_, fr_, by first | exact Kd.R_nil _ _ _ _ _ | exact Kd.N_nil _ _ _ _ _ | exact Kd.V_nil _ _ _ _ _ | exact Kd.Q_nil _ _ _ _ _ | exact Kd.S_nil _ _ _ _ _, hs_⟩
         ·rw [if_neg c37] at H
          have c37b0 : (t416 == 0) = false := beq_eq_false_iff_ne.mpr c37
          have c37b1 : (t416 != 0) = true := bne_iff_ne.mpr c37
          (first | rw [c37b0] | rw [c37b1] | (simp only [i64_w, i32_w]; first | rw [c37b0] | rw [c37b1]) | skip)
          simp only [Option.some.injEq, Prod.mk.injEq] at H
          obtain ⟨rfl, rfl, rfl⟩ := H
          go_wp2
          go_ret3
          exact ⟨_, fr_, by first | exact Kd.R_nil _ _ _ _ _ | exact Kd.N_nil _ _ _ _ _ | exact Kd.V_nil _ _ _ _ _ | exact Kd.Q_nil _ _ _ _ _ | exact Kd.S_nil _ _ _ _ _, hs_⟩
        ·rw [if_neg c32] at H
         exact absurd H (by simp)
    ·rw [if_neg c19] at H
     have c19b0 : (t402 == 0) = false := beq_eq_false_iff_ne.mpr c19
     have c19b1 : (t402 != 0) = true := bne_iff_ne.mpr c19
     (first | rw [c19b0] | rw [c19b1] | (simp only [i64_w, i32_w]; first | rw [c19b0] | rw [c19b1]) | skip)
     simp only [Option.some.injEq, Prod.mk.injEq] at H
     obtain ⟨rfl, rfl, rfl⟩ := H
     go_wp2
     go_ret3
     exact ⟨_, fr_, by first | exact Kd.R_nil _ _ _ _ _ | exact Kd.N_nil _ _ _ _ _ | exact Kd.V_nil _ _ _ _ _ | exact Kd.Q_nil _ _ _ _ _ | exact Kd.S_nil _ _ _ _ _, hb_⟩
 ·rw [if_neg c10] at H
  have c10b0 : (t394 == 0) = false := beq_eq_false_iff_ne.mpr c10
  have c10b1 : (t394 != 0) = true := bne_iff_ne.mpr c10
  (first | rw [c10b0] | rw [c10b1] | (simp only [i64_w, i32_w]; first | rw [c10b0] | rw [c10b1]) | skip)
  simp only [Option.some.injEq, Prod.mk.injEq] at H
  obtain ⟨rfl, rfl, rfl⟩ := H
  go_wp2
  go_ret3
  exact ⟨_, fr_, by first | exact Kd.R_nil _ _ _ _ _ | exact Kd.N_nil _ _ _ _ _ | exact Kd.V_nil _ _ _ _ _ | exact Kd.Q_nil _ _ _ _ _ | exact Kd.S_nil _ _ _ _ _, hb_⟩
/-! ### conclavelaw05_anchored: function 17 -/
def conclavelaw05_anchored.f (k : Nat)  : Option (Bool) := (euclid_GCD.f k 1 (([2013265920, 0, 1] : List Int)) (([2, 2] : List Int))).bind fun bt434 => ((euclid_Modulo.f k 1 (([2] : List Int)) (([0, 1] : List Int))).bind fun bt444 => (if bt434.2 = 0 then (if bt444.2.2 = 0 then (if bt444.2.1 = true then ((cr1_Same.f k bt434.1 (([1, 1] : List Int))).bind fun t452 => (if t452 = true then ((cr1_Same.f k bt444.1 (([1006632961] : List Int))).bind fun t456 => (some t456)) else (none))) else (none)) else (none)) else (none)))
theorem conclavelaw05_anchored.mono : ∀ k, LeO (conclavelaw05_anchored.f k ) (conclavelaw05_anchored.f (k + 1) ) := by
 intro  k
 unfold conclavelaw05_anchored.f
 repeat' first
   | (with_reducible exact cr1_Same.mono _ _ _)
   | (with_reducible exact euclid_GCD.mono _ _ _ _)
   | (with_reducible exact euclid_Modulo.mono _ _ _ _)
   | (with_reducible exact LeO.refl _)
   | (with_reducible exact LeO.none _)
   | (with_reducible refine LeO.ite ?_ ?_)
   | (with_reducible refine LeO.bind ?_ (fun _ => ?_))
   | exact cr1_Same.mono _ _ _
   | exact euclid_GCD.mono _ _ _ _
   | exact euclid_Modulo.mono _ _ _ _
   | exact LeO.none _
   | refine LeO.ite ?_ ?_
   | refine LeO.bind ?_ (fun _ => ?_)
set_option maxHeartbeats 8000000 in
set_option maxRecDepth 100000 in
theorem conclavelaw05_anchored.calls (k : Nat)  (r : Bool) (w : World) (h : conclavelaw05_anchored.f k  = some r) :
  Calls Try.prog 17 #[] w fun e w' => e = .returned (.bool r) ∧ Below w.heap.size w w' := by
 have HB := A_ (Below.refl w.heap.size w)
 have H : ((euclid_GCD.f k 1 (([2013265920, 0, 1] : List Int)) (([2, 2] : List Int))).bind fun bt434 => ((euclid_Modulo.f k 1 (([2] : List Int)) (([0, 1] : List Int))).bind fun bt444 => (if bt434.2 = 0 then (if bt444.2.2 = 0 then (if bt444.2.1 = true then ((cr1_Same.f k bt434.1 (([1, 1] : List Int))).bind fun t452 => (if t452 = true then ((cr1_Same.f k bt444.1 (([1006632961] : List Int))).bind fun t456 => (some t456)) else (none))) else (none)) else (none)) else (none)))) = some r := h
 clear h
 obtain ⟨y428, hy428⟩ : ∃ y_ : List Int, y_ = (([2013265920, 0, 1] : List Int)) := ⟨_, rfl⟩
 replace H : ((euclid_GCD.f k 1 y428 (([2, 2] : List Int))).bind fun bt434 => ((euclid_Modulo.f k 1 (([2] : List Int)) (([0, 1] : List Int))).bind fun bt444 => (if bt434.2 = 0 then (if bt444.2.2 = 0 then (if bt444.2.1 = true then ((cr1_Same.f k bt434.1 (([1, 1] : List Int))).bind fun t452 => (if t452 = true then ((cr1_Same.f k bt444.1 (([1006632961] : List Int))).bind fun t456 => (some t456)) else (none))) else (none)) else (none)) else (none)))) = some r := by first | (rw [hy428]; with_reducible exact H) | (have H2_ := (Option.bind_some _ _).symm.trans H; rw [hy428]; with_reducible exact H2_) | (have H2_ := (Option.bind_some _ _).symm.trans H; with_reducible exact H2_) | with_reducible exact H | (rw [hy428]; exact H) | exact H
 have Ny428 := Aside0.mk hy428
 clear hy428
 obtain ⟨y431, hy431⟩ : ∃ y_ : List Int, y_ = (([2, 2] : List Int)) := ⟨_, rfl⟩
 replace H : ((euclid_GCD.f k 1 y428 y431).bind fun bt434 => ((euclid_Modulo.f k 1 (([2] : List Int)) (([0, 1] : List Int))).bind fun bt444 => (if bt434.2 = 0 then (if bt444.2.2 = 0 then (if bt444.2.1 = true then ((cr1_Same.f k bt434.1 (([1, 1] : List Int))).bind fun t452 => (if t452 = true then ((cr1_Same.f k bt444.1 (([1006632961] : List Int))).bind fun t456 => (some t456)) else (none))) else (none)) else (none)) else (none)))) = some r := by first | (rw [hy431]; with_reducible exact H) | (have H2_ := (Option.bind_some _ _).symm.trans H; rw [hy431]; with_reducible exact H2_) | (have H2_ := (Option.bind_some _ _).symm.trans H; with_reducible exact H2_) | with_reducible exact H | (rw [hy431]; exact H) | exact H
 have Ny431 := Aside0.mk hy431
 clear hy431
 replace H := Option.bind_eq_some_iff.mp H
 obtain ⟨⟨t434, t437⟩, A10, H⟩ := H
 (try dsimp only at H)
 have A1 := Aside0.mk A10
 clear A10
 obtain ⟨y438, hy438⟩ : ∃ y_ : List Int, y_ = (([2] : List Int)) := ⟨_, rfl⟩
 replace H : ((euclid_Modulo.f k 1 y438 (([0, 1] : List Int))).bind fun bt444 => (if t437 = 0 then (if bt444.2.2 = 0 then (if bt444.2.1 = true then ((cr1_Same.f k t434 (([1, 1] : List Int))).bind fun t452 => (if t452 = true then ((cr1_Same.f k bt444.1 (([1006632961] : List Int))).bind fun t456 => (some t456)) else (none))) else (none)) else (none)) else (none))) = some r := by first | (rw [hy438]; with_reducible exact H) | (have H2_ := (Option.bind_some _ _).symm.trans H; rw [hy438]; with_reducible exact H2_) | (have H2_ := (Option.bind_some _ _).symm.trans H; with_reducible exact H2_) | with_reducible exact H | (rw [hy438]; exact H) | exact H
 have Ny438 := Aside0.mk hy438
 clear hy438
 obtain ⟨y441, hy441⟩ : ∃ y_ : List Int, y_ = (([0, 1] : List Int)) := ⟨_, rfl⟩
 replace H : ((euclid_Modulo.f k 1 y438 y441).bind fun bt444 => (if t437 = 0 then (if bt444.2.2 = 0 then (if bt444.2.1 = true then ((cr1_Same.f k t434 (([1, 1] : List Int))).bind fun t452 => (if t452 = true then ((cr1_Same.f k bt444.1 (([1006632961] : List Int))).bind fun t456 => (some t456)) else (none))) else (none)) else (none)) else (none))) = some r := by first | (rw [hy441]; with_reducible exact H) | (have H2_ := (Option.bind_some _ _).symm.trans H; rw [hy441]; with_reducible exact H2_) | (have H2_ := (Option.bind_some _ _).symm.trans H; with_reducible exact H2_) | with_reducible exact H | (rw [hy441]; exact H) | exact H
 have Ny441 := Aside0.mk hy441
 clear hy441
 replace H := Option.bind_eq_some_iff.mp H
 obtain ⟨⟨t444, t447, t448⟩, A20, H⟩ := H
 replace H : (if t437 = 0 then (if t448 = 0 then (if t447 = true then ((cr1_Same.f k t434 (([1, 1] : List Int))).bind fun t452 => (if t452 = true then ((cr1_Same.f k t444 (([1006632961] : List Int))).bind fun t456 => (some t456)) else (none))) else (none)) else (none)) else (none)) = some r := H
 have A2 := Aside0.mk A20
 clear A20
 by_cases c3 : t437 = 0
 ·rw [if_pos c3] at H
  have c3b0 : (t437 == 0) = true := beq_iff_eq.mpr c3
  have c3b1 : (t437 != 0) = false := bne_eq_false_iff_eq.mpr c3
  clear c3
  by_cases c4 : t448 = 0
  ·rw [if_pos c4] at H
   have c4b0 : (t448 == 0) = true := beq_iff_eq.mpr c4
   have c4b1 : (t448 != 0) = false := bne_eq_false_iff_eq.mpr c4
   clear c4
   by_cases c5 : t447 = true
   ·subst c5
    have H1 : ((cr1_Same.f k t434 (([1, 1] : List Int))).bind fun t452 => (if t452 = true then ((cr1_Same.f k t444 (([1006632961] : List Int))).bind fun t456 => (some t456)) else (none))) = some r := by rw [if_pos rfl] at H; exact H
    clear H
    have H := H1
    clear H1
    obtain ⟨y449, hy449⟩ : ∃ y_ : List Int, y_ = (([1, 1] : List Int)) := ⟨_, rfl⟩
    replace H : ((cr1_Same.f k t434 y449).bind fun t452 => (if t452 = true then ((cr1_Same.f k t444 (([1006632961] : List Int))).bind fun t456 => (some t456)) else (none))) = some r := by first | (rw [hy449]; with_reducible exact H) | (have H2_ := (Option.bind_some _ _).symm.trans H; rw [hy449]; with_reducible exact H2_) | (have H2_ := (Option.bind_some _ _).symm.trans H; with_reducible exact H2_) | with_reducible exact H | (rw [hy449]; exact H) | exact H
    have Ny449 := Aside0.mk hy449
    clear hy449
    replace H := Option.bind_eq_some_iff.mp H
    obtain ⟨t452, A60, H⟩ := H
    replace H : (if t452 = true then ((cr1_Same.f k t444 (([1006632961] : List Int))).bind fun t456 => (some t456)) else (none)) = some r := H
    have A6 := Aside0.mk A60
    clear A60
    by_cases c7 : t452 = true
    ·subst c7
     have H1 : ((cr1_Same.f k t444 (([1006632961] : List Int))).bind fun t456 => (some t456)) = some r := by rw [if_pos rfl] at H; exact H
     clear H
     have H := H1
     clear H1
     obtain ⟨y453, hy453⟩ : ∃ y_ : List Int, y_ = (([1006632961] : List Int)) := ⟨_, rfl⟩
     replace H : ((cr1_Same.f k t444 y453).bind fun t456 => (some t456)) = some r := by first | (rw [hy453]; with_reducible exact H) | (have H2_ := (Option.bind_some _ _).symm.trans H; rw [hy453]; with_reducible exact H2_) | (have H2_ := (Option.bind_some _ _).symm.trans H; with_reducible exact H2_) | with_reducible exact H | (rw [hy453]; exact H) | exact H
     have Ny453 := Aside0.mk hy453
     clear hy453
     replace H := Option.bind_eq_some_iff.mp H
     obtain ⟨t456, A80, H⟩ := H
     replace H : (some t456) = some r := H
     have A8 := Aside0.mk A80
     clear A80
     obtain rfl := Option.some.inj H
     go_enter Try.func17, Try.ntmps17
     go_wp2_with (first | ((with_reducible refine gate_dst (N := 7) rfl ?_); (try (refine gate_guard (by rfl) ?_; dsimp only)); refine Kd.R_lit (Kd.int .u64) _ 40 ?hg (N := 7) ?hd (xs := ([2013265920, 0, 1] : List Int)) (inner := [.int .u64 2013265920, .int .u64 0, .int .u64 1]) (ok := fun _ => True) (okp := fun _ => True) ?hr ?hp (fun _ hk => hk) trivial (Below.refl _ _) (Nat.le_refl _) (by simp) ?_; (case hd => rfl); (case hg => rfl); (case hr => first | (go_simp; done) | (go_simp; rfl)); (case hp => exact (Reps.one (show Kd.M (Kd.int .u64) _ _ _ 2013265920 [.int .u64 2013265920] from rfl) (Reps.one (show Kd.M (Kd.int .u64) _ _ _ 0 [.int .u64 0] from rfl) (Reps.one (show Kd.M (Kd.int .u64) _ _ _ 1 [.int .u64 1] from rfl) (Reps.none _ _))))); intro v429 w9 ho10 hb hg_ hnew_; clear hg_ hnew_; (first | rw [← Ny428.out] at ho10 | (simp only [Int.reduceToNat] at ho10; rw [← Ny428.out] at ho10)); have n0_ := A_ (Kd.R_lower (Kd.R_mono (ok' := fun _ => True) ho10 (fun _ _ => trivial)) (below_size hb_)); have n1_ := A_ (below_step hb_ hb); clear HB; have HO430 := n0_; have HB := n1_; clear n0_ n1_; clear hb ho10) | ((with_reducible refine gate_dst (N := 8) rfl ?_); (try (refine gate_guard (by rfl) ?_; dsimp only)); refine Kd.R_lit (Kd.int .u64) _ 40 ?hg (N := 8) ?hd (xs := ([2, 2] : List Int)) (inner := [.int .u64 2, .int .u64 2]) (ok := fun _ => True) (okp := fun _ => True) ?hr ?hp (fun _ hk => hk) trivial (Below.refl _ _) (Nat.le_refl _) (by simp) ?_; (case hd => rfl); (case hg => rfl); (case hr => first | (go_simp; done) | (go_simp; rfl)); (case hp => exact (Reps.one (show Kd.M (Kd.int .u64) _ _ _ 2 [.int .u64 2] from rfl) (Reps.one (show Kd.M (Kd.int .u64) _ _ _ 2 [.int .u64 2] from rfl) (Reps.none _ _)))); intro v432 w11 ho12 hb hg_ hnew_; clear hg_ hnew_; (first | rw [← Ny431.out] at ho12 | (simp only [Int.reduceToNat] at ho12; rw [← Ny431.out] at ho12)); have n0_ := A_ (Kd.R_below (nR_ HO430) hb); have n1_ := A_ (Kd.R_lower (Kd.R_mono (ok' := fun _ => True) ho12 (fun _ _ => trivial)) (below_size hb_)); have n2_ := A_ (below_step hb_ hb); clear HO430 HB; have HO430 := n0_; have HO433 := n1_; have HB := n2_; clear n0_ n1_ n2_; clear hb ho12; obtain ⟨Ao13, co13, eo13⟩ := Kd.R_slice HO430.out; subst eo13; obtain ⟨Ao14, co14, eo14⟩ := Kd.R_slice HO433.out; subst eo14) | ((with_reducible refine gate_callee (f := 10) rfl ?_); refine goesM_ (some 9) Try.func10 #[.int .u8 1, .slice Ao13 y428.length co13, .slice Ao14 y431.length co14] ?_; (with_reducible refine (euclid_GCD.calls k 1 (fun k_ => some k_ = (.slice Ao13 y428.length co13 : Value).ownBlock) _ _ y428 (fun k_ => some k_ = (.slice Ao14 y431.length co14 : Value).ownBlock) _ _ y431 t434 t437 _ ?side1 ?side2 A1.out).mono ?_); (case side1 => exact Kd.R_V (Kd.R_tight rfl (HO430.out))); (case side2 => exact Kd.R_V (Kd.R_tight rfl (HO433.out))); rintro e w15 ⟨v435, rfl, ho0, hb⟩; refine ⟨_, rfl, ?_⟩; have n0_ := A_ (Kd.R_below (nR_ HO430) hb); have n1_ := A_ (Kd.R_below (nR_ HO433) hb); have n2_ := A_ (Kd.R_lower (Kd.R_mono (ok' := fun k_ => True) ho0 (fun _ hk_ => trivial)) (below_size hb_)); have n3_ := A_ (below_step hb_ hb); clear HO430 HO433 HB; have HO430 := n0_; have HO433 := n1_; have HO436 := n2_; have HB := n3_; clear n0_ n1_ n2_ n3_; (try clear hb); (try clear ho0)) | ((with_reducible refine gate_dst (N := 13) rfl ?_); (try (refine gate_guard (by rfl) ?_; dsimp only)); refine Kd.R_lit (Kd.int .u64) _ 40 ?hg (N := 13) ?hd (xs := ([2] : List Int)) (inner := [.int .u64 2]) (ok := fun _ => True) (okp := fun _ => True) ?hr ?hp (fun _ hk => hk) trivial (Below.refl _ _) (Nat.le_refl _) (by simp) ?_; (case hd => rfl); (case hg => rfl); (case hr => first | (go_simp; done) | (go_simp; rfl)); (case hp => exact (Reps.one (show Kd.M (Kd.int .u64) _ _ _ 2 [.int .u64 2] from rfl) (Reps.none _ _))); intro v439 w16 ho17 hb hg_ hnew_; clear hg_ hnew_; (first | rw [← Ny438.out] at ho17 | (simp only [Int.reduceToNat] at ho17; rw [← Ny438.out] at ho17)); have n0_ := A_ (Kd.R_below (nR_ HO430) hb); have n1_ := A_ (Kd.R_below (nR_ HO433) hb); have n2_ := A_ (Kd.R_below (nR_ HO436) hb); have n3_ := A_ (Kd.R_lower (Kd.R_mono (ok' := fun _ => True) ho17 (fun _ _ => trivial)) (below_size hb_)); have n4_ := A_ (below_step hb_ hb); clear HO430 HO433 HO436 HB; have HO430 := n0_; have HO433 := n1_; have HO436 := n2_; have HO440 := n3_; have HB := n4_; clear n0_ n1_ n2_ n3_ n4_; clear hb ho17) | ((with_reducible refine gate_dst (N := 14) rfl ?_); (try (refine gate_guard (by rfl) ?_; dsimp only)); refine Kd.R_lit (Kd.int .u64) _ 40 ?hg (N := 14) ?hd (xs := ([0, 1] : List Int)) (inner := [.int .u64 0, .int .u64 1]) (ok := fun _ => True) (okp := fun _ => True) ?hr ?hp (fun _ hk => hk) trivial (Below.refl _ _) (Nat.le_refl _) (by simp) ?_; (case hd => rfl); (case hg => rfl); (case hr => first | (go_simp; done) | (go_simp; rfl)); (case hp => exact (Reps.one (show Kd.M (Kd.int .u64) _ _ _ 0 [.int .u64 0] from rfl) (Reps.one (show Kd.M (Kd.int .u64) _ _ _ 1 [.int .u64 1] from rfl) (Reps.none _ _)))); intro v442 w18 ho19 hb hg_ hnew_; clear hg_ hnew_; (first | rw [← Ny441.out] at ho19 | (simp only [Int.reduceToNat] at ho19; rw [← Ny441.out] at ho19)); have n0_ := A_ (Kd.R_below (nR_ HO430) hb); have n1_ := A_ (Kd.R_below (nR_ HO433) hb); have n2_ := A_ (Kd.R_below (nR_ HO436) hb); have n3_ := A_ (Kd.R_below (nR_ HO440) hb); have n4_ := A_ (Kd.R_lower (Kd.R_mono (ok' := fun _ => True) ho19 (fun _ _ => trivial)) (below_size hb_)); have n5_ := A_ (below_step hb_ hb); clear HO430 HO433 HO436 HO440 HB; have HO430 := n0_; have HO433 := n1_; have HO436 := n2_; have HO440 := n3_; have HO443 := n4_; have HB := n5_; clear n0_ n1_ n2_ n3_ n4_ n5_; clear hb ho19; obtain ⟨Ao20, co20, eo20⟩ := Kd.R_slice HO440.out; subst eo20; obtain ⟨Ao21, co21, eo21⟩ := Kd.R_slice HO443.out; subst eo21) | ((with_reducible refine gate_callee (f := 12) rfl ?_); refine goesM_ (some 15) Try.func12 #[.int .u8 1, .slice Ao20 y438.length co20, .slice Ao21 y441.length co21] ?_; (with_reducible refine (euclid_Modulo.calls k 1 (fun k_ => some k_ = (.slice Ao20 y438.length co20 : Value).ownBlock) _ _ y438 (fun k_ => some k_ = (.slice Ao21 y441.length co21 : Value).ownBlock) _ _ y441 t444 true t448 _ ?side1 ?side2 A2.out).mono ?_); (case side1 => exact Kd.R_V (Kd.R_tight rfl (HO440.out))); (case side2 => exact Kd.R_V (Kd.R_tight rfl (HO443.out))); rintro e w22 ⟨v445, rfl, ho0, hb⟩; refine ⟨_, rfl, ?_⟩; have n0_ := A_ (Kd.R_below (nR_ HO430) hb); have n1_ := A_ (Kd.R_below (nR_ HO433) hb); have n2_ := A_ (Kd.R_below (nR_ HO436) hb); have n3_ := A_ (Kd.R_below (nR_ HO440) hb); have n4_ := A_ (Kd.R_below (nR_ HO443) hb); have n5_ := A_ (Kd.R_lower (Kd.R_mono (ok' := fun k_ => True) ho0 (fun _ hk_ => trivial)) (below_size hb_)); have n6_ := A_ (below_step hb_ hb); clear HO430 HO433 HO436 HO440 HO443 HB; have HO430 := n0_; have HO433 := n1_; have HO436 := n2_; have HO440 := n3_; have HO443 := n4_; have HO446 := n5_; have HB := n6_; clear n0_ n1_ n2_ n3_ n4_ n5_ n6_; (try clear hb); (try clear ho0)) | ((with_reducible refine gate_dst (N := 30) rfl ?_); (try (refine gate_guard (by rfl) ?_; dsimp only)); refine Kd.R_lit (Kd.int .u64) _ 40 ?hg (N := 30) ?hd (xs := ([1, 1] : List Int)) (inner := [.int .u64 1, .int .u64 1]) (ok := fun _ => True) (okp := fun _ => True) ?hr ?hp (fun _ hk => hk) trivial (Below.refl _ _) (Nat.le_refl _) (by simp) ?_; (case hd => rfl); (case hg => rfl); (case hr => first | (go_simp; done) | (go_simp; rfl)); (case hp => exact (Reps.one (show Kd.M (Kd.int .u64) _ _ _ 1 [.int .u64 1] from rfl) (Reps.one (show Kd.M (Kd.int .u64) _ _ _ 1 [.int .u64 1] from rfl) (Reps.none _ _)))); intro v450 w23 ho24 hb hg_ hnew_; clear hg_ hnew_; (first | rw [← Ny449.out] at ho24 | (simp only [Int.reduceToNat] at ho24; rw [← Ny449.out] at ho24)); have n0_ := A_ (Kd.R_below (nR_ HO430) hb); have n1_ := A_ (Kd.R_below (nR_ HO433) hb); have n2_ := A_ (Kd.R_below (nR_ HO436) hb); have n3_ := A_ (Kd.R_below (nR_ HO440) hb); have n4_ := A_ (Kd.R_below (nR_ HO443) hb); have n5_ := A_ (Kd.R_below (nR_ HO446) hb); have n6_ := A_ (Kd.R_lower (Kd.R_mono (ok' := fun _ => True) ho24 (fun _ _ => trivial)) (below_size hb_)); have n7_ := A_ (below_step hb_ hb); clear HO430 HO433 HO436 HO440 HO443 HO446 HB; have HO430 := n0_; have HO433 := n1_; have HO436 := n2_; have HO440 := n3_; have HO443 := n4_; have HO446 := n5_; have HO451 := n6_; have HB := n7_; clear n0_ n1_ n2_ n3_ n4_ n5_ n6_ n7_; clear hb ho24; obtain ⟨Ao25, co25, eo25⟩ := Kd.R_slice HO436.out; subst eo25; obtain ⟨Ao26, co26, eo26⟩ := Kd.R_slice HO451.out; subst eo26) | (go_at_call 14; (with_reducible refine (cr1_Same.calls k _ _ t434 _ _ y449 true _ ?side1 ?side2 ?side3 ?side4 A6.out).mono ?_); (case side1 => repeat (first | exact (Kd.R_reads' HO436.out).2.2 | (with_reducible refine Kd.C_alloc ?_ _) | (with_reducible refine Kd.C_drewN ?_ _) | (with_reducible refine Kd.C_drew ?_))); (case side2 => exact (Kd.R_reads' HO436.out).2.1); (case side3 => repeat (first | exact (Kd.R_reads' HO451.out).2.2 | (with_reducible refine Kd.C_alloc ?_ _) | (with_reducible refine Kd.C_drewN ?_ _) | (with_reducible refine Kd.C_drew ?_))); (case side4 => exact (Kd.R_reads' HO451.out).2.1); rintro e w' ⟨rfl, ⟨nd, rfl⟩⟩) | ((with_reducible refine gate_dst (N := 35) rfl ?_); (try (refine gate_guard (by rfl) ?_; dsimp only)); refine Kd.R_lit (Kd.int .u64) _ 40 ?hg (N := 35) ?hd (xs := ([1006632961] : List Int)) (inner := [.int .u64 1006632961]) (ok := fun _ => True) (okp := fun _ => True) ?hr ?hp (fun _ hk => hk) trivial (Below.refl _ _) (Nat.le_refl _) (by simp) ?_; (case hd => rfl); (case hg => rfl); (case hr => first | (go_simp; done) | (go_simp; rfl)); (case hp => exact (Reps.one (show Kd.M (Kd.int .u64) _ _ _ 1006632961 [.int .u64 1006632961] from rfl) (Reps.none _ _))); intro v454 w27 ho28 hb hg_ hnew_; clear hg_ hnew_; (first | rw [← Ny453.out] at ho28 | (simp only [Int.reduceToNat] at ho28; rw [← Ny453.out] at ho28)); have n0_ := A_ (Kd.R_below (nR_ HO430) hb); have n1_ := A_ (Kd.R_below (nR_ HO433) hb); have n2_ := A_ (Kd.R_below (nR_ HO436) hb); have n3_ := A_ (Kd.R_below (nR_ HO440) hb); have n4_ := A_ (Kd.R_below (nR_ HO443) hb); have n5_ := A_ (Kd.R_below (nR_ HO446) hb); have n6_ := A_ (Kd.R_below (nR_ HO451) hb); have n7_ := A_ (Kd.R_lower (Kd.R_mono (ok' := fun _ => True) ho28 (fun _ _ => trivial)) (below_size hb_)); have n8_ := A_ (below_step hb_ hb); clear HO430 HO433 HO436 HO440 HO443 HO446 HO451 HB; have HO430 := n0_; have HO433 := n1_; have HO436 := n2_; have HO440 := n3_; have HO443 := n4_; have HO446 := n5_; have HO451 := n6_; have HO455 := n7_; have HB := n8_; clear n0_ n1_ n2_ n3_ n4_ n5_ n6_ n7_ n8_; clear hb ho28; obtain ⟨Ao29, co29, eo29⟩ := Kd.R_slice HO446.out; subst eo29; obtain ⟨Ao30, co30, eo30⟩ := Kd.R_slice HO455.out; subst eo30) | (go_at_call 14; (with_reducible refine (cr1_Same.calls k _ _ t444 _ _ y453 t456 _ ?side1 ?side2 ?side3 ?side4 A8.out).mono ?_); (case side1 => repeat (first | exact (Kd.R_reads' HO446.out).2.2 | (with_reducible refine Kd.C_alloc ?_ _) | (with_reducible refine Kd.C_drewN ?_ _) | (with_reducible refine Kd.C_drew ?_))); (case side2 => exact (Kd.R_reads' HO446.out).2.1); (case side3 => repeat (first | exact (Kd.R_reads' HO455.out).2.2 | (with_reducible refine Kd.C_alloc ?_ _) | (with_reducible refine Kd.C_drewN ?_ _) | (with_reducible refine Kd.C_drew ?_))); (case side4 => exact (Kd.R_reads' HO455.out).2.1); rintro e w' ⟨rfl, ⟨nd, rfl⟩⟩))
     go_ret
     exact ⟨fr_, hb_⟩
    ·replace c7 := Bool.eq_false_iff.mpr c7
     subst c7
     have H1 : (none) = some r := by rw [if_neg (show ¬ (false = true) by decide)] at H; exact H
     clear H
     have H := H1
     clear H1
     exact absurd H (by simp)
   ·replace c5 := Bool.eq_false_iff.mpr c5
    subst c5
    have H1 : (none) = some r := by rw [if_neg (show ¬ (false = true) by decide)] at H; exact H
    clear H
    have H := H1
    clear H1
    exact absurd H (by simp)
  ·rw [if_neg c4] at H
   exact absurd H (by simp)
 ·rw [if_neg c3] at H
  exact absurd H (by simp)
/-! ### euclid_Partial: function 21 -/
def euclid_Partial.f (k : Nat) (a0 : Int) (l1 : List Int) (l2 : List Int) (a3 : Int) : Option (List Int × List Int × List Int × Int) := if a3 < 0 then (some (([] : List Int), ([] : List Int), ([] : List Int), 2)) else ((euclid_may.f k a0 (([l1, l2] : List (List Int)))).bind fun t460 => (if t460 = 0 then ((euclid_partial.f k a0 l1 l2 a3).bind fun bt461 => (if bt461.2.2.2 = 0 then (some (bt461.1, bt461.2.1, bt461.2.2.1, 0)) else (some (([] : List Int), ([] : List Int), ([] : List Int), bt461.2.2.2)))) else (some (([] : List Int), ([] : List Int), ([] : List Int), t460))))
theorem euclid_Partial.mono : ∀ a0 a1 a2 a3 k, LeO (euclid_Partial.f k a0 a1 a2 a3) (euclid_Partial.f (k + 1) a0 a1 a2 a3) := by
 intro a0 a1 a2 a3 k
 unfold euclid_Partial.f
 repeat' first
   | (with_reducible exact euclid_may.mono _ _ _)
   | (with_reducible exact euclid_partial.mono _ _ _ _ _)
   | (with_reducible exact LeO.refl _)
   | (with_reducible exact LeO.none _)
   | (with_reducible refine LeO.ite ?_ ?_)
   | (with_reducible refine LeO.bind ?_ (fun _ => ?_))
   | exact euclid_may.mono _ _ _
   | exact euclid_partial.mono _ _ _ _ _
   | exact LeO.none _
   | refine LeO.ite ?_ ?_
   | refine LeO.bind ?_ (fun _ => ?_)
set_option maxHeartbeats 8000000 in
set_option maxRecDepth 100000 in
theorem euclid_Partial.calls (k : Nat) (a0 : Int) (P1_ : Nat → Prop) (A1 : Option Addr) (c1 : Nat) (l1 : List Int) (P2_ : Nat → Prop) (A2 : Option Addr) (c2 : Nat) (l2 : List Int) (a3 : Int) (r1 : List Int) (r2 : List Int) (r3 : List Int) (r4 : Int) (w : World) (hs1 : Kd.V (Kd.int .u64) 40 w w.heap.size (fun k_ => P1_ k_) (.slice A1 l1.length c1) l1) (hs2 : Kd.V (Kd.int .u64) 40 w w.heap.size (fun k_ => P2_ k_) (.slice A2 l2.length c2) l2) (h : euclid_Partial.f k a0 l1 l2 a3 = some (r1, r2, r3, r4)) :
  Calls Try.prog 21 #[.int .u8 a0, .slice A1 l1.length c1, .slice A2 l2.length c2, .int .i64 a3] w fun e w' => ∃ v0_ v1_ v2_ : Value, e = .returned (.tuple #[v0_, v1_, v2_, .int .i64 r4]) ∧ Kd.R (Kd.int .u64) 40 w' w.heap.size (fun k_ => (w.heap.size ≤ k_)) v0_ r1 ∧ Kd.R (Kd.int .u64) 40 w' w.heap.size (fun k_ => (w.heap.size ≤ k_)) v1_ r2 ∧ Kd.R (Kd.int .u64) 40 w' w.heap.size (fun k_ => (w.heap.size ≤ k_)) v2_ r3 ∧ Below w.heap.size w w' := by
 have hu61 := Try.underlying61
 have HO1 := A_ (show Kd.V (Kd.int .u64) 40 w w.heap.size (fun k_ => ((P1_ k_ ∨ P2_ k_) ∨ w.heap.size ≤ k_)) (.slice A1 l1.length c1) l1 from Kd.V_mono hs1 (fun k_ hk => .inl (.inl hk)))
 have HO2 := A_ (show Kd.V (Kd.int .u64) 40 w w.heap.size (fun k_ => ((P1_ k_ ∨ P2_ k_) ∨ w.heap.size ≤ k_)) (.slice A2 l2.length c2) l2 from Kd.V_mono hs2 (fun k_ hk => .inl (.inr hk)))
 have HB := A_ (Below.refl w.heap.size w)
 have H : (if a3 < 0 then (some (([] : List Int), ([] : List Int), ([] : List Int), 2)) else ((euclid_may.f k a0 (([l1, l2] : List (List Int)))).bind fun t460 => (if t460 = 0 then ((euclid_partial.f k a0 l1 l2 a3).bind fun bt461 => (if bt461.2.2.2 = 0 then (some (bt461.1, bt461.2.1, bt461.2.2.1, 0)) else (some (([] : List Int), ([] : List Int), ([] : List Int), bt461.2.2.2)))) else (some (([] : List Int), ([] : List Int), ([] : List Int), t460))))) = some (r1, r2, r3, r4) := h
 clear h
 by_cases c5 : a3 < 0
 ·rw [if_pos c5] at H
  have c5b0 : decide (a3 < 0) = true := decide_eq_true c5
  clear c5
  simp only [Option.some.injEq, Prod.mk.injEq] at H
  obtain ⟨rfl, rfl, rfl, rfl⟩ := H
  go_enter Try.func21, Try.ntmps21
  go_wp2
  repeat (go_quiet (fail); try go_wp2)
  refine bodyPost_ret (results_list (rs := [.tmp 8, .tmp 9, .tmp 10, .tmp 11]) rfl (by simp) (.tmp (.tmp (.tmp (.tmp .nil))))) rfl ?_
  exact ⟨_, _, _, fr_, by first | exact Kd.R_nil _ _ _ _ _ | exact Kd.N_nil _ _ _ _ _ | exact Kd.V_nil _ _ _ _ _ | exact Kd.Q_nil _ _ _ _ _ | exact Kd.S_nil _ _ _ _ _, by first | exact Kd.R_nil _ _ _ _ _ | exact Kd.N_nil _ _ _ _ _ | exact Kd.V_nil _ _ _ _ _ | exact Kd.Q_nil _ _ _ _ _ | exact Kd.S_nil _ _ _ _ _, by first | exact Kd.R_nil _ _ _ _ _ | exact Kd.N_nil _ _ _ _ _ | exact Kd.V_nil _ _ _ _ _ | exact Kd.Q_nil _ _ _ _ _ | exact Kd.S_nil _ _ _ _ _, hb_⟩
 ·rw [if_neg c5] at H
  have c5b0 : decide (a3 < 0) = false := decide_eq_false c5
  clear c5
  obtain ⟨y457, hy457⟩ : ∃ y_ : List (List Int), y_ = (([l1, l2] : List (List Int))) := ⟨_, rfl⟩
  replace H : ((euclid_may.f k a0 y457).bind fun t460 => (if t460 = 0 then ((euclid_partial.f k a0 l1 l2 a3).bind fun bt461 => (if bt461.2.2.2 = 0 then (some (bt461.1, bt461.2.1, bt461.2.2.1, 0)) else (some (([] : List Int), ([] : List Int), ([] : List Int), bt461.2.2.2)))) else (some (([] : List Int), ([] : List Int), ([] : List Int), t460)))) = some (r1, r2, r3, r4) := by first | (rw [hy457]; with_reducible exact H) | (have H2_ := (Option.bind_some _ _).symm.trans H; rw [hy457]; with_reducible exact H2_) | (have H2_ := (Option.bind_some _ _).symm.trans H; with_reducible exact H2_) | with_reducible exact H | (rw [hy457]; exact H) | exact H
  have Ny457 := Aside0.mk hy457
  clear hy457
  replace H := Option.bind_eq_some_iff.mp H
  obtain ⟨t460, A60, H⟩ := H
  replace H : (if t460 = 0 then ((euclid_partial.f k a0 l1 l2 a3).bind fun bt461 => (if bt461.2.2.2 = 0 then (some (bt461.1, bt461.2.1, bt461.2.2.1, 0)) else (some (([] : List Int), ([] : List Int), ([] : List Int), bt461.2.2.2)))) else (some (([] : List Int), ([] : List Int), ([] : List Int), t460))) = some (r1, r2, r3, r4) := H
  have A6 := Aside0.mk A60
  clear A60
  by_cases c7 : t460 = 0
  ·rw [if_pos c7] at H
   have c7b0 : (t460 == 0) = true := beq_iff_eq.mpr c7
   have c7b1 : (t460 != 0) = false := bne_eq_false_iff_eq.mpr c7
   clear c7
   replace H := Option.bind_eq_some_iff.mp H
   obtain ⟨⟨t461, t464, t467, t470⟩, A80, H⟩ := H
   replace H : (if t470 = 0 then (some (t461, t464, t467, 0)) else (some (([] : List Int), ([] : List Int), ([] : List Int), t470))) = some (r1, r2, r3, r4) := H
   have A8 := Aside0.mk A80
   clear A80
   by_cases c9 : t470 = 0
   ·rw [if_pos c9] at H
    have c9b0 : (t470 == 0) = true := beq_iff_eq.mpr c9
    have c9b1 : (t470 != 0) = false := bne_eq_false_iff_eq.mpr c9
    clear c9
    simp only [Option.some.injEq, Prod.mk.injEq] at H
    obtain ⟨rfl, rfl, rfl, rfl⟩ := H
    go_enter Try.func21, Try.ntmps21
    go_wp2_with (first | ((with_reducible refine gate_dst (N := 18) rfl ?_); refine Kd.N_lit (Kd.slice 40 (Kd.int .u64)) _ 22 ?hg (N' := 18) ?hd (xs := ([l1, l2] : List (List Int))) (inner := [.slice A1 l1.length c1, .slice A2 l2.length c2]) (ok := (fun k_ => ((P1_ k_ ∨ P2_ k_) ∨ w.heap.size ≤ k_))) (okp := (fun k_ => ((P1_ k_ ∨ P2_ k_) ∨ w.heap.size ≤ k_))) ?hr ?hp (fun _ hk => hk) ((show ∀ k_, w.heap.size ≤ k_ → (fun k_ => ((P1_ k_ ∨ P2_ k_) ∨ w.heap.size ≤ k_)) k_ from fun k_ hk => (.inr (Nat.le_trans (below_size hb_) hk))) _ (Nat.le_refl _)) (Below.refl _ _) (Nat.le_refl _) (by simp) ?_; (case hd => rfl); (case hg => rfl); (case hr => first | (go_simp; done) | (go_simp; rfl)); (case hp => exact (Reps.one (show Kd.FK (Kd.slice 40 (Kd.int .u64)) _ _ l1 [.slice A1 l1.length c1] from (Kd.FK_slice_mk (Kd.V_reads' (Kd.V_mono (ok' := (fun k_ => ((P1_ k_ ∨ P2_ k_) ∨ w.heap.size ≤ k_))) (HO1.out) (fun k_ hk => hk))).2.1 (Kd.V_F (Kd.V_mono (ok' := (fun k_ => ((P1_ k_ ∨ P2_ k_) ∨ w.heap.size ≤ k_))) (HO1.out) (fun k_ hk => hk))))) (Reps.one (show Kd.FK (Kd.slice 40 (Kd.int .u64)) _ _ l2 [.slice A2 l2.length c2] from (Kd.FK_slice_mk (Kd.V_reads' (Kd.V_mono (ok' := (fun k_ => ((P1_ k_ ∨ P2_ k_) ∨ w.heap.size ≤ k_))) (HO2.out) (fun k_ hk => hk))).2.1 (Kd.V_F (Kd.V_mono (ok' := (fun k_ => ((P1_ k_ ∨ P2_ k_) ∨ w.heap.size ≤ k_))) (HO2.out) (fun k_ hk => hk))))) (Reps.none _ _)))); intro v458 w10 ho11 hb hg_ hnew_; clear hg_ hnew_; (first | rw [← Ny457.out] at ho11 | (simp only [Int.reduceToNat] at ho11; rw [← Ny457.out] at ho11)); have n0_ := A_ (Kd.V_below (nV_ HO1) hb); have n1_ := A_ (Kd.V_below (nV_ HO2) hb); have n2_ := A_ (Kd.N_lower ho11 (below_size hb_)); have n3_ := A_ (below_step hb_ hb); clear HO1 HO2 HB; have HO1 := n0_; have HO2 := n1_; have HO459 := n2_; have HB := n3_; clear n0_ n1_ n2_ n3_; clear hb ho11; obtain ⟨Ao12, co12, eo12⟩ := Kd.N_slice HO459.out; subst eo12) | (go_at_call 27; (with_reducible refine (euclid_may.calls k a0 _ _ y457 t460 _ ?side1 ?side2 A6.out).mono ?_); (case side1 => repeat (first | exact (Kd.N_reads' HO459.out).2.2 | (with_reducible refine Kd.C_alloc ?_ _) | (with_reducible refine Kd.C_drewN ?_ _) | (with_reducible refine Kd.C_drew ?_))); (case side2 => exact (Kd.N_reads' HO459.out).2.1); rintro e w13 ⟨rfl, hb⟩; have n0_ := A_ (Kd.V_below (nV_ HO1) hb); have n1_ := A_ (Kd.V_below (nV_ HO2) hb); have n2_ := A_ (Kd.N_below (nN_ HO459) hb); have n3_ := A_ (below_step hb_ hb); clear HO1 HO2 HO459 HB; have HO1 := n0_; have HO2 := n1_; have HO459 := n2_; have HB := n3_; clear n0_ n1_ n2_ n3_; (try clear hb); (try clear hb2); (try clear hk); (try clear hi)) | (go_at_call 34; (with_reducible refine (euclid_partial.calls k a0 _ _ l1 _ _ l2 a3 t461 t464 t467 t470 _ ?side1 ?side2 ?side3 ?side4 A8.out).mono ?_); (case side1 => repeat (first | exact (Kd.V_reads' HO1.out).2.2 | (with_reducible refine Kd.C_alloc ?_ _) | (with_reducible refine Kd.C_drewN ?_ _) | (with_reducible refine Kd.C_drew ?_))); (case side2 => exact (Kd.V_reads' HO1.out).2.1); (case side3 => repeat (first | exact (Kd.V_reads' HO2.out).2.2 | (with_reducible refine Kd.C_alloc ?_ _) | (with_reducible refine Kd.C_drewN ?_ _) | (with_reducible refine Kd.C_drew ?_))); (case side4 => exact (Kd.V_reads' HO2.out).2.1); rintro e w14 ⟨v462, v465, v468, rfl, ho0, ho1, ho2, hb⟩; have n0_ := A_ (Kd.V_below (nV_ HO1) hb); have n1_ := A_ (Kd.V_below (nV_ HO2) hb); have n2_ := A_ (Kd.N_below (nN_ HO459) hb); have n3_ := A_ (Kd.R_lower (Kd.R_newM (M := fun k_ => (w.heap.size ≤ k_)) (Kd.R_mono (ok' := fun _ => True) ho0 (fun _ _ => trivial)) (below_size hb_) (fun k_ h_ => h_)) (below_size hb_)); have n4_ := A_ (Kd.R_lower (Kd.R_newM (M := fun k_ => (w.heap.size ≤ k_)) (Kd.R_mono (ok' := fun _ => True) ho1 (fun _ _ => trivial)) (below_size hb_) (fun k_ h_ => h_)) (below_size hb_)); have n5_ := A_ (Kd.R_lower (Kd.R_newM (M := fun k_ => (w.heap.size ≤ k_)) (Kd.R_mono (ok' := fun _ => True) ho2 (fun _ _ => trivial)) (below_size hb_) (fun k_ h_ => h_)) (below_size hb_)); have n6_ := A_ (below_step hb_ hb); clear HO1 HO2 HO459 HB; have HO1 := n0_; have HO2 := n1_; have HO459 := n2_; have HO463 := n3_; have HO466 := n4_; have HO469 := n5_; have HB := n6_; clear n0_ n1_ n2_ n3_ n4_ n5_ n6_; (try clear hb); (try clear hb2); (try clear hk); (try clear hi); (try clear ho0); (try clear ho1); (try clear ho2)) | ((with_reducible refine gate_dst (N := 12) rfl ?_); refine box_event ?hg (N := 12) ?hd (cs := #[.slice none 0 0, .slice none 0 0, .slice none 0 0]) (t := 61) ?hr ?_; (case hd => rfl); (case hg => rfl); (case hr => first | (go_simp; done) | (go_simp; rfl)); intro gb471 hg w15 hbox hb; have n0_ := A_ (Kd.V_below (Kd.V_elderB (nV_ HO1) gb471 (Nat.le_of_eq hg.symm)) hb); have n1_ := A_ (Kd.V_below (Kd.V_elderB (nV_ HO2) gb471 (Nat.le_of_eq hg.symm)) hb); have n2_ := A_ (Kd.N_below (Kd.N_elderB (nN_ HO459) gb471 (Nat.le_of_eq hg.symm)) hb); have n3_ := A_ (Kd.R_below (nR_ HO463) hb); have n4_ := A_ (Kd.R_below (nR_ HO466) hb); have n5_ := A_ (Kd.R_below (nR_ HO469) hb); have n6_ := A_ (below_step hb_ hb); have n7_ := A_ (hbox); have n8_ := A_ ((by rw [hg]; exact (below_size hb_) : w.heap.size ≤ gb471)); have n9_ := A_ ((by rw [hg]; exact (below_size hb_) : w.heap.size ≤ gb471)); clear HO1 HO2 HO459 HO463 HO466 HO469 HB; have HO1 := n0_; have HO2 := n1_; have HO459 := n2_; have HO463 := n3_; have HO466 := n4_; have HO469 := n5_; have HB := n6_; have BK471 := n7_; have GW471 := n8_; have GE471 := n9_; clear n0_ n1_ n2_ n3_ n4_ n5_ n6_ n7_ n8_ n9_; clear hb hbox hg; obtain ⟨Ao16, co16, eo16⟩ := Kd.R_slice HO463.out; subst eo16; have hcz17_0 : w15.cell? ⟨gb471, 0, none⟩ = some (.slice none 0 0) := (blk_cell BK471.out 0).trans rfl; have hcz17_1 : w15.cell? ⟨gb471, 1, none⟩ = some (.slice none 0 0) := (blk_cell BK471.out 1).trans rfl; have hcz17_2 : w15.cell? ⟨gb471, 2, none⟩ = some (.slice none 0 0) := (blk_cell BK471.out 2).trans rfl; have hfz17_0 := blk_frozen BK471.out 0; have hfz17_1 := blk_frozen BK471.out 1; have hfz17_2 := blk_frozen BK471.out 2; obtain ⟨Ao18, co18, eo18⟩ := Kd.R_slice HO466.out; subst eo18; obtain ⟨Ao19, co19, eo19⟩ := Kd.R_slice HO469.out; subst eo19))
    repeat (go_quiet (first | ((with_reducible refine gate_dst (N := 18) rfl ?_); refine Kd.N_lit (Kd.slice 40 (Kd.int .u64)) _ 22 ?hg (N' := 18) ?hd (xs := ([l1, l2] : List (List Int))) (inner := [.slice A1 l1.length c1, .slice A2 l2.length c2]) (ok := (fun k_ => ((P1_ k_ ∨ P2_ k_) ∨ w.heap.size ≤ k_))) (okp := (fun k_ => ((P1_ k_ ∨ P2_ k_) ∨ w.heap.size ≤ k_))) ?hr ?hp (fun _ hk => hk) ((show ∀ k_, w.heap.size ≤ k_ → (fun k_ => ((P1_ k_ ∨ P2_ k_) ∨ w.heap.size ≤ k_)) k_ from fun k_ hk => (.inr (Nat.le_trans (below_size hb_) hk))) _ (Nat.le_refl _)) (Below.refl _ _) (Nat.le_refl _) (by simp) ?_; (case hd => rfl); (case hg => rfl); (case hr => first | (go_simp; done) | (go_simp; rfl)); (case hp => exact (Reps.one (show Kd.FK (Kd.slice 40 (Kd.int .u64)) _ _ l1 [.slice A1 l1.length c1] from (Kd.FK_slice_mk (Kd.V_reads' (Kd.V_mono (ok' := (fun k_ => ((P1_ k_ ∨ P2_ k_) ∨ w.heap.size ≤ k_))) (HO1.out) (fun k_ hk => hk))).2.1 (Kd.V_F (Kd.V_mono (ok' := (fun k_ => ((P1_ k_ ∨ P2_ k_) ∨ w.heap.size ≤ k_))) (HO1.out) (fun k_ hk => hk))))) (Reps.one (show Kd.FK (Kd.slice 40 (Kd.int .u64)) _ _ l2 [.slice A2 l2.length c2] from (Kd.FK_slice_mk (Kd.V_reads' (Kd.V_mono (ok' := (fun k_ => ((P1_ k_ ∨ P2_ k_) ∨ w.heap.size ≤ k_))) (HO2.out) (fun k_ hk => hk))).2.1 (Kd.V_F (Kd.V_mono (ok' := (fun k_ => ((P1_ k_ ∨ P2_ k_) ∨ w.heap.size ≤ k_))) (HO2.out) (fun k_ hk => hk))))) (Reps.none _ _)))); intro v458 w10 ho11 hb hg_ hnew_; clear hg_ hnew_; (first | rw [← Ny457.out] at ho11 | (simp only [Int.reduceToNat] at ho11; rw [← Ny457.out] at ho11)); have n0_ := A_ (Kd.V_below (nV_ HO1) hb); have n1_ := A_ (Kd.V_below (nV_ HO2) hb); have n2_ := A_ (Kd.N_lower ho11 (below_size hb_)); have n3_ := A_ (below_step hb_ hb); clear HO1 HO2 HB; have HO1 := n0_; have HO2 := n1_; have HO459 := n2_; have HB := n3_; clear n0_ n1_ n2_ n3_; clear hb ho11; obtain ⟨Ao12, co12, eo12⟩ := Kd.N_slice HO459.out; subst eo12) | (go_at_call 27; (with_reducible refine (euclid_may.calls k a0 _ _ y457 t460 _ ?side1 ?side2 A6.out).mono ?_); (case side1 => repeat (first | exact (Kd.N_reads' HO459.out).2.2 | (with_reducible refine Kd.C_alloc ?_ _) | (with_reducible refine Kd.C_drewN ?_ _) | (with_reducible refine Kd.C_drew ?_))); (case side2 => exact (Kd.N_reads' HO459.out).2.1); rintro e w13 ⟨rfl, hb⟩; have n0_ := A_ (Kd.V_below (nV_ HO1) hb); have n1_ := A_ (Kd.V_below (nV_ HO2) hb); have n2_ := A_ (Kd.N_below (nN_ HO459) hb); have n3_ := A_ (below_step hb_ hb); clear HO1 HO2 HO459 HB; have HO1 := n0_; have HO2 := n1_; have HO459 := n2_; have HB := n3_; clear n0_ n1_ n2_ n3_; (try clear hb); (try clear hb2); (try clear hk); (try clear hi)) | (go_at_call 34; (with_reducible refine (euclid_partial.calls k a0 _ _ l1 _ _ l2 a3 t461 t464 t467 t470 _ ?side1 ?side2 ?side3 ?side4 A8.out).mono ?_); (case side1 => repeat (first | exact (Kd.V_reads' HO1.out).2.2 | (with_reducible refine Kd.C_alloc ?_ _) | (with_reducible refine Kd.C_drewN ?_ _) | (with_reducible refine Kd.C_drew ?_))); (case side2 => exact (Kd.V_reads' HO1.out).2.1); (case side3 => repeat (first | exact (Kd.V_reads' HO2.out).2.2 | (with_reducible refine Kd.C_alloc ?_ _) | (with_reducible refine Kd.C_drewN ?_ _) | (with_reducible refine Kd.C_drew ?_))); (case side4 => exact (Kd.V_reads' HO2.out).2.1); rintro e w14 ⟨v462, v465, v468, rfl, ho0, ho1, ho2, hb⟩; have n0_ := A_ (Kd.V_below (nV_ HO1) hb); have n1_ := A_ (Kd.V_below (nV_ HO2) hb); have n2_ := A_ (Kd.N_below (nN_ HO459) hb); have n3_ := A_ (Kd.R_lower (Kd.R_newM (M := fun k_ => (w.heap.size ≤ k_)) (Kd.R_mono (ok' := fun _ => True) ho0 (fun _ _ => trivial)) (below_size hb_) (fun k_ h_ => h_)) (below_size hb_)); have n4_ := A_ (Kd.R_lower (Kd.R_newM (M := fun k_ => (w.heap.size ≤ k_)) (Kd.R_mono (ok' := fun _ => True) ho1 (fun _ _ => trivial)) (below_size hb_) (fun k_ h_ => h_)) (below_size hb_)); have n5_ := A_ (Kd.R_lower (Kd.R_newM (M := fun k_ => (w.heap.size ≤ k_)) (Kd.R_mono (ok' := fun _ => True) ho2 (fun _ _ => trivial)) (below_size hb_) (fun k_ h_ => h_)) (below_size hb_)); have n6_ := A_ (below_step hb_ hb); clear HO1 HO2 HO459 HB; have HO1 := n0_; have HO2 := n1_; have HO459 := n2_; have HO463 := n3_; have HO466 := n4_; have HO469 := n5_; have HB := n6_; clear n0_ n1_ n2_ n3_ n4_ n5_ n6_; (try clear hb); (try clear hb2); (try clear hk); (try clear hi); (try clear ho0); (try clear ho1); (try clear ho2)) | ((with_reducible refine gate_dst (N := 12) rfl ?_); refine box_event ?hg (N := 12) ?hd (cs := #[.slice none 0 0, .slice none 0 0, .slice none 0 0]) (t := 61) ?hr ?_; (case hd => rfl); (case hg => rfl); (case hr => first | (go_simp; done) | (go_simp; rfl)); intro gb471 hg w15 hbox hb; have n0_ := A_ (Kd.V_below (Kd.V_elderB (nV_ HO1) gb471 (Nat.le_of_eq hg.symm)) hb); have n1_ := A_ (Kd.V_below (Kd.V_elderB (nV_ HO2) gb471 (Nat.le_of_eq hg.symm)) hb); have n2_ := A_ (Kd.N_below (Kd.N_elderB (nN_ HO459) gb471 (Nat.le_of_eq hg.symm)) hb); have n3_ := A_ (Kd.R_below (nR_ HO463) hb); have n4_ := A_ (Kd.R_below (nR_ HO466) hb); have n5_ := A_ (Kd.R_below (nR_ HO469) hb); have n6_ := A_ (below_step hb_ hb); have n7_ := A_ (hbox); have n8_ := A_ ((by rw [hg]; exact (below_size hb_) : w.heap.size ≤ gb471)); have n9_ := A_ ((by rw [hg]; exact (below_size hb_) : w.heap.size ≤ gb471)); clear HO1 HO2 HO459 HO463 HO466 HO469 HB; have HO1 := n0_; have HO2 := n1_; have HO459 := n2_; have HO463 := n3_; have HO466 := n4_; have HO469 := n5_; have HB := n6_; have BK471 := n7_; have GW471 := n8_; have GE471 := n9_; clear n0_ n1_ n2_ n3_ n4_ n5_ n6_ n7_ n8_ n9_; clear hb hbox hg; obtain ⟨Ao16, co16, eo16⟩ := Kd.R_slice HO463.out; subst eo16; have hcz17_0 : w15.cell? ⟨gb471, 0, none⟩ = some (.slice none 0 0) := (blk_cell BK471.out 0).trans rfl; have hcz17_1 : w15.cell? ⟨gb471, 1, none⟩ = some (.slice none 0 0) := (blk_cell BK471.out 1).trans rfl; have hcz17_2 : w15.cell? ⟨gb471, 2, none⟩ = some (.slice none 0 0) := (blk_cell BK471.out 2).trans rfl; have hfz17_0 := blk_frozen BK471.out 0; have hfz17_1 := blk_frozen BK471.out 1; have hfz17_2 := blk_frozen BK471.out 2; obtain ⟨Ao18, co18, eo18⟩ := Kd.R_slice HO466.out; subst eo18; obtain ⟨Ao19, co19, eo19⟩ := Kd.R_slice HO469.out; subst eo19)); try go_wp2_with (first | ((with_reducible refine gate_dst (N := 18) rfl ?_); refine Kd.N_lit (Kd.slice 40 (Kd.int .u64)) _ 22 ?hg (N' := 18) ?hd (xs := ([l1, l2] : List (List Int))) (inner := [.slice A1 l1.length c1, .slice A2 l2.length c2]) (ok := (fun k_ => ((P1_ k_ ∨ P2_ k_) ∨ w.heap.size ≤ k_))) (okp := (fun k_ => ((P1_ k_ ∨ P2_ k_) ∨ w.heap.size ≤ k_))) ?hr ?hp (fun _ hk => hk) ((show ∀ k_, w.heap.size ≤ k_ → (fun k_ => ((P1_ k_ ∨ P2_ k_) ∨ w.heap.size ≤ k_)) k_ from fun k_ hk => (.inr (Nat.le_trans (below_size hb_) hk))) _ (Nat.le_refl _)) (Below.refl _ _) (Nat.le_refl _) (by simp) ?_; (case hd => rfl); (case hg => rfl); (case hr => first | (go_simp; done) | (go_simp; rfl)); (case hp => exact (Reps.one (show Kd.FK (Kd.slice 40 (Kd.int .u64)) _ _ l1 [.slice A1 l1.length c1] from (Kd.FK_slice_mk (Kd.V_reads' (Kd.V_mono (ok' := (fun k_ => ((P1_ k_ ∨ P2_ k_) ∨ w.heap.size ≤ k_))) (HO1.out) (fun k_ hk => hk))).2.1 (Kd.V_F (Kd.V_mono (ok' := (fun k_ => ((P1_ k_ ∨ P2_ k_) ∨ w.heap.size ≤ k_))) (HO1.out) (fun k_ hk => hk))))) (Reps.one (show Kd.FK (Kd.slice 40 (Kd.int .u64)) _ _ l2 [.slice A2 l2.length c2] from (Kd.FK_slice_mk (Kd.V_reads' (Kd.V_mono (ok' := (fun k_ => ((P1_ k_ ∨ P2_ k_) ∨ w.heap.size ≤ k_))) (HO2.out) (fun k_ hk => hk))).2.1 (Kd.V_F (Kd.V_mono (ok' := (fun k_ => ((P1_ k_ ∨ P2_ k_) ∨ w.heap.size ≤ k_))) (HO2.out) (fun k_ hk => hk))))) (Reps.none _ _)))); intro v458 w10 ho11 hb hg_ hnew_; clear hg_ hnew_; (first | rw [← Ny457.out] at ho11 | (simp only [Int.reduceToNat] at ho11; rw [← Ny457.out] at ho11)); have n0_ := A_ (Kd.V_below (nV_ HO1) hb); have n1_ := A_ (Kd.V_below (nV_ HO2) hb); have n2_ := A_ (Kd.N_lower ho11 (below_size hb_)); have n3_ := A_ (below_step hb_ hb); clear HO1 HO2 HB; have HO1 := n0_; have HO2 := n1_; have HO459 := n2_; have HB := n3_; clear n0_ n1_ n2_ n3_; clear hb ho11; obtain ⟨Ao12, co12, eo12⟩ := Kd.N_slice HO459.out; subst eo12) | (go_at_call 27; (with_reducible refine (euclid_may.calls k a0 _ _ y457 t460 _ ?side1 ?side2 A6.out).mono ?_); (case side1 => repeat (first | exact (Kd.N_reads' HO459.out).2.2 | (with_reducible refine Kd.C_alloc ?_ _) | (with_reducible refine Kd.C_drewN ?_ _) | (with_reducible refine Kd.C_drew ?_))); (case side2 => exact (Kd.N_reads' HO459.out).2.1); rintro e w13 ⟨rfl, hb⟩; have n0_ := A_ (Kd.V_below (nV_ HO1) hb); have n1_ := A_ (Kd.V_below (nV_ HO2) hb); have n2_ := A_ (Kd.N_below (nN_ HO459) hb); have n3_ := A_ (below_step hb_ hb); clear HO1 HO2 HO459 HB; have HO1 := n0_; have HO2 := n1_; have HO459 := n2_; have HB := n3_; clear n0_ n1_ n2_ n3_; (try clear hb); (try clear hb2); (try clear hk); (try clear hi)) | (go_at_call 34; (with_reducible refine (euclid_partial.calls k a0 _ _ l1 _ _ l2 a3 t461 t464 t467 t470 _ ?side1 ?side2 ?side3 ?side4 A8.out).mono ?_); (case side1 => repeat (first | exact (Kd.V_reads' HO1.out).2.2 | (with_reducible refine Kd.C_alloc ?_ _) | (with_reducible refine Kd.C_drewN ?_ _) | (with_reducible refine Kd.C_drew ?_))); (case side2 => exact (Kd.V_reads' HO1.out).2.1); (case side3 => repeat (first | exact (Kd.V_reads' HO2.out).2.2 | (with_reducible refine Kd.C_alloc ?_ _) | (with_reducible refine Kd.C_drewN ?_ _) | (with_reducible refine Kd.C_drew ?_))); (case side4 => exact (Kd.V_reads' HO2.out).2.1); rintro e w14 ⟨v462, v465, v468, rfl, ho0, ho1, ho2, hb⟩; have n0_ := A_ (Kd.V_below (nV_ HO1) hb); have n1_ := A_ (Kd.V_below (nV_ HO2) hb); have n2_ := A_ (Kd.N_below (nN_ HO459) hb); have n3_ := A_ (Kd.R_lower (Kd.R_newM (M := fun k_ => (w.heap.size ≤ k_)) (Kd.R_mono (ok' := fun _ => True) ho0 (fun _ _ => trivial)) (below_size hb_) (fun k_ h_ => h_)) (below_size hb_)); have n4_ := A_ (Kd.R_lower (Kd.R_newM (M := fun k_ => (w.heap.size ≤ k_)) (Kd.R_mono (ok' := fun _ => True) ho1 (fun _ _ => trivial)) (below_size hb_) (fun k_ h_ => h_)) (below_size hb_)); have n5_ := A_ (Kd.R_lower (Kd.R_newM (M := fun k_ => (w.heap.size ≤ k_)) (Kd.R_mono (ok' := fun _ => True) ho2 (fun _ _ => trivial)) (below_size hb_) (fun k_ h_ => h_)) (below_size hb_)); have n6_ := A_ (below_step hb_ hb); clear HO1 HO2 HO459 HB; have HO1 := n0_; have HO2 := n1_; have HO459 := n2_; have HO463 := n3_; have HO466 := n4_; have HO469 := n5_; have HB := n6_; clear n0_ n1_ n2_ n3_ n4_ n5_ n6_; (try clear hb); (try clear hb2); (try clear hk); (try clear hi); (try clear ho0); (try clear ho1); (try clear ho2)) | ((with_reducible refine gate_dst (N := 12) rfl ?_); refine box_event ?hg (N := 12) ?hd (cs := #[.slice none 0 0, .slice none 0 0, .slice none 0 0]) (t := 61) ?hr ?_; (case hd => rfl); (case hg => rfl); (case hr => first | (go_simp; done) | (go_simp; rfl)); intro gb471 hg w15 hbox hb; have n0_ := A_ (Kd.V_below (Kd.V_elderB (nV_ HO1) gb471 (Nat.le_of_eq hg.symm)) hb); have n1_ := A_ (Kd.V_below (Kd.V_elderB (nV_ HO2) gb471 (Nat.le_of_eq hg.symm)) hb); have n2_ := A_ (Kd.N_below (Kd.N_elderB (nN_ HO459) gb471 (Nat.le_of_eq hg.symm)) hb); have n3_ := A_ (Kd.R_below (nR_ HO463) hb); have n4_ := A_ (Kd.R_below (nR_ HO466) hb); have n5_ := A_ (Kd.R_below (nR_ HO469) hb); have n6_ := A_ (below_step hb_ hb); have n7_ := A_ (hbox); have n8_ := A_ ((by rw [hg]; exact (below_size hb_) : w.heap.size ≤ gb471)); have n9_ := A_ ((by rw [hg]; exact (below_size hb_) : w.heap.size ≤ gb471)); clear HO1 HO2 HO459 HO463 HO466 HO469 HB; have HO1 := n0_; have HO2 := n1_; have HO459 := n2_; have HO463 := n3_; have HO466 := n4_; have HO469 := n5_; have HB := n6_; have BK471 := n7_; have GW471 := n8_; have GE471 := n9_; clear n0_ n1_ n2_ n3_ n4_ n5_ n6_ n7_ n8_ n9_; clear hb hbox hg; obtain ⟨Ao16, co16, eo16⟩ := Kd.R_slice HO463.out; subst eo16; have hcz17_0 : w15.cell? ⟨gb471, 0, none⟩ = some (.slice none 0 0) := (blk_cell BK471.out 0).trans rfl; have hcz17_1 : w15.cell? ⟨gb471, 1, none⟩ = some (.slice none 0 0) := (blk_cell BK471.out 1).trans rfl; have hcz17_2 : w15.cell? ⟨gb471, 2, none⟩ = some (.slice none 0 0) := (blk_cell BK471.out 2).trans rfl; have hfz17_0 := blk_frozen BK471.out 0; have hfz17_1 := blk_frozen BK471.out 1; have hfz17_2 := blk_frozen BK471.out 2; obtain ⟨Ao18, co18, eo18⟩ := Kd.R_slice HO466.out; subst eo18; obtain ⟨Ao19, co19, eo19⟩ := Kd.R_slice HO469.out; subst eo19)))
    refine bodyPost_ret (results_list (rs := [.tmp 8, .tmp 9, .tmp 10, .tmp 11]) rfl (by simp) (.tmp (.tmp (.tmp (.tmp .nil))))) rfl ?_
    exact ⟨_, _, _, fr_, by (with_reducible repeat (first | apply Kd.R_alloc | apply Kd.R_drewN | apply Kd.R_drew)); exact Kd.R_mono (Kd.R_far (p := ⟨gb471, 2, none⟩) (Kd.R_far (p := ⟨gb471, 1, none⟩) (Kd.R_far (p := ⟨gb471, 0, none⟩) (Kd.R_types HO463.out BK471.out (by decide)) (fun _ hk => hk.2) (.slice Ao16 t461.length co16)) (fun _ hk => hk.2) (.slice Ao18 t464.length co18)) (fun _ hk => hk.2) (.slice Ao19 t467.length co19)) (fun _ hk => hk.1.1), by (with_reducible repeat (first | apply Kd.R_alloc | apply Kd.R_drewN | apply Kd.R_drew)); exact Kd.R_mono (Kd.R_far (p := ⟨gb471, 2, none⟩) (Kd.R_far (p := ⟨gb471, 1, none⟩) (Kd.R_far (p := ⟨gb471, 0, none⟩) (Kd.R_types HO466.out BK471.out (by decide)) (fun _ hk => hk.2) (.slice Ao16 t461.length co16)) (fun _ hk => hk.2) (.slice Ao18 t464.length co18)) (fun _ hk => hk.2) (.slice Ao19 t467.length co19)) (fun _ hk => hk.1.1), by (with_reducible repeat (first | apply Kd.R_alloc | apply Kd.R_drewN | apply Kd.R_drew)); exact Kd.R_mono (Kd.R_far (p := ⟨gb471, 2, none⟩) (Kd.R_far (p := ⟨gb471, 1, none⟩) (Kd.R_far (p := ⟨gb471, 0, none⟩) (Kd.R_types HO469.out BK471.out (by decide)) (fun _ hk => hk.2) (.slice Ao16 t461.length co16)) (fun _ hk => hk.2) (.slice Ao18 t464.length co18)) (fun _ hk => hk.2) (.slice Ao19 t467.length co19)) (fun _ hk => hk.1.1), hs_⟩
   ·rw [if_neg c9] at H
    have c9b0 : (t470 == 0) = false := beq_eq_false_iff_ne.mpr c9
    have c9b1 : (t470 != 0) = true := bne_iff_ne.mpr c9
    simp only [Option.some.injEq, Prod.mk.injEq] at H
    obtain ⟨rfl, rfl, rfl, rfl⟩ := H
    go_enter Try.func21, Try.ntmps21
    go_wp2_with (first | ((with_reducible refine gate_dst (N := 18) rfl ?_); refine Kd.N_lit (Kd.slice 40 (Kd.int .u64)) _ 22 ?hg (N' := 18) ?hd (xs := ([l1, l2] : List (List Int))) (inner := [.slice A1 l1.length c1, .slice A2 l2.length c2]) (ok := (fun k_ => ((P1_ k_ ∨ P2_ k_) ∨ w.heap.size ≤ k_))) (okp := (fun k_ => ((P1_ k_ ∨ P2_ k_) ∨ w.heap.size ≤ k_))) ?hr ?hp (fun _ hk => hk) ((show ∀ k_, w.heap.size ≤ k_ → (fun k_ => ((P1_ k_ ∨ P2_ k_) ∨ w.heap.size ≤ k_)) k_ from fun k_ hk => (.inr (Nat.le_trans (below_size hb_) hk))) _ (Nat.le_refl _)) (Below.refl _ _) (Nat.le_refl _) (by simp) ?_; (case hd => rfl); (case hg => rfl); (case hr => first | (go_simp; done) | (go_simp; rfl)); (case hp => exact (Reps.one (show Kd.FK (Kd.slice 40 (Kd.int .u64)) _ _ l1 [.slice A1 l1.length c1] from (Kd.FK_slice_mk (Kd.V_reads' (Kd.V_mono (ok' := (fun k_ => ((P1_ k_ ∨ P2_ k_) ∨ w.heap.size ≤ k_))) (HO1.out) (fun k_ hk => hk))).2.1 (Kd.V_F (Kd.V_mono (ok' := (fun k_ => ((P1_ k_ ∨ P2_ k_) ∨ w.heap.size ≤ k_))) (HO1.out) (fun k_ hk => hk))))) (Reps.one (show Kd.FK (Kd.slice 40 (Kd.int .u64)) _ _ l2 [.slice A2 l2.length c2] from (Kd.FK_slice_mk (Kd.V_reads' (Kd.V_mono (ok' := (fun k_ => ((P1_ k_ ∨ P2_ k_) ∨ w.heap.size ≤ k_))) (HO2.out) (fun k_ hk => hk))).2.1 (Kd.V_F (Kd.V_mono (ok' := (fun k_ => ((P1_ k_ ∨ P2_ k_) ∨ w.heap.size ≤ k_))) (HO2.out) (fun k_ hk => hk))))) (Reps.none _ _)))); intro v458 w20 ho21 hb hg_ hnew_; clear hg_ hnew_; (first | rw [← Ny457.out] at ho21 | (simp only [Int.reduceToNat] at ho21; rw [← Ny457.out] at ho21)); have n0_ := A_ (Kd.V_below (nV_ HO1) hb); have n1_ := A_ (Kd.V_below (nV_ HO2) hb); have n2_ := A_ (Kd.N_lower ho21 (below_size hb_)); have n3_ := A_ (below_step hb_ hb); clear HO1 HO2 HB; have HO1 := n0_; have HO2 := n1_; have HO459 := n2_; have HB := n3_; clear n0_ n1_ n2_ n3_; clear hb ho21; obtain ⟨Ao22, co22, eo22⟩ := Kd.N_slice HO459.out; subst eo22) | (go_at_call 27; (with_reducible refine (euclid_may.calls k a0 _ _ y457 t460 _ ?side1 ?side2 A6.out).mono ?_); (case side1 => repeat (first | exact (Kd.N_reads' HO459.out).2.2 | (with_reducible refine Kd.C_alloc ?_ _) | (with_reducible refine Kd.C_drewN ?_ _) | (with_reducible refine Kd.C_drew ?_))); (case side2 => exact (Kd.N_reads' HO459.out).2.1); rintro e w23 ⟨rfl, hb⟩; have n0_ := A_ (Kd.V_below (nV_ HO1) hb); have n1_ := A_ (Kd.V_below (nV_ HO2) hb); have n2_ := A_ (Kd.N_below (nN_ HO459) hb); have n3_ := A_ (below_step hb_ hb); clear HO1 HO2 HO459 HB; have HO1 := n0_; have HO2 := n1_; have HO459 := n2_; have HB := n3_; clear n0_ n1_ n2_ n3_; (try clear hb); (try clear hb2); (try clear hk); (try clear hi)) | (go_at_call 34; (with_reducible refine (euclid_partial.calls k a0 _ _ l1 _ _ l2 a3 t461 t464 t467 t470 _ ?side1 ?side2 ?side3 ?side4 A8.out).mono ?_); (case side1 => repeat (first | exact (Kd.V_reads' HO1.out).2.2 | (with_reducible refine Kd.C_alloc ?_ _) | (with_reducible refine Kd.C_drewN ?_ _) | (with_reducible refine Kd.C_drew ?_))); (case side2 => exact (Kd.V_reads' HO1.out).2.1); (case side3 => repeat (first | exact (Kd.V_reads' HO2.out).2.2 | (with_reducible refine Kd.C_alloc ?_ _) | (with_reducible refine Kd.C_drewN ?_ _) | (with_reducible refine Kd.C_drew ?_))); (case side4 => exact (Kd.V_reads' HO2.out).2.1); rintro e w24 ⟨v462, v465, v468, rfl, ho0, ho1, ho2, hb⟩; have n0_ := A_ (Kd.V_below (nV_ HO1) hb); have n1_ := A_ (Kd.V_below (nV_ HO2) hb); have n2_ := A_ (Kd.N_below (nN_ HO459) hb); have n3_ := A_ (Kd.R_lower (Kd.R_newM (M := fun k_ => (w.heap.size ≤ k_)) (Kd.R_mono (ok' := fun _ => True) ho0 (fun _ _ => trivial)) (below_size hb_) (fun k_ h_ => h_)) (below_size hb_)); have n4_ := A_ (Kd.R_lower (Kd.R_newM (M := fun k_ => (w.heap.size ≤ k_)) (Kd.R_mono (ok' := fun _ => True) ho1 (fun _ _ => trivial)) (below_size hb_) (fun k_ h_ => h_)) (below_size hb_)); have n5_ := A_ (Kd.R_lower (Kd.R_newM (M := fun k_ => (w.heap.size ≤ k_)) (Kd.R_mono (ok' := fun _ => True) ho2 (fun _ _ => trivial)) (below_size hb_) (fun k_ h_ => h_)) (below_size hb_)); have n6_ := A_ (below_step hb_ hb); clear HO1 HO2 HO459 HB; have HO1 := n0_; have HO2 := n1_; have HO459 := n2_; have HO463 := n3_; have HO466 := n4_; have HO469 := n5_; have HB := n6_; clear n0_ n1_ n2_ n3_ n4_ n5_ n6_; (try clear hb); (try clear hb2); (try clear hk); (try clear hi); (try clear ho0); (try clear ho1); (try clear ho2)) | ((with_reducible refine gate_dst (N := 12) rfl ?_); refine box_event ?hg (N := 12) ?hd (cs := #[.slice none 0 0, .slice none 0 0, .slice none 0 0]) (t := 61) ?hr ?_; (case hd => rfl); (case hg => rfl); (case hr => first | (go_simp; done) | (go_simp; rfl)); intro gb471 hg w25 hbox hb; have n0_ := A_ (Kd.V_below (Kd.V_elderB (nV_ HO1) gb471 (Nat.le_of_eq hg.symm)) hb); have n1_ := A_ (Kd.V_below (Kd.V_elderB (nV_ HO2) gb471 (Nat.le_of_eq hg.symm)) hb); have n2_ := A_ (Kd.N_below (Kd.N_elderB (nN_ HO459) gb471 (Nat.le_of_eq hg.symm)) hb); have n3_ := A_ (Kd.R_below (nR_ HO463) hb); have n4_ := A_ (Kd.R_below (nR_ HO466) hb); have n5_ := A_ (Kd.R_below (nR_ HO469) hb); have n6_ := A_ (below_step hb_ hb); have n7_ := A_ (hbox); have n8_ := A_ ((by rw [hg]; exact (below_size hb_) : w.heap.size ≤ gb471)); have n9_ := A_ ((by rw [hg]; exact (below_size hb_) : w.heap.size ≤ gb471)); clear HO1 HO2 HO459 HO463 HO466 HO469 HB; have HO1 := n0_; have HO2 := n1_; have HO459 := n2_; have HO463 := n3_; have HO466 := n4_; have HO469 := n5_; have HB := n6_; have BK471 := n7_; have GW471 := n8_; have GE471 := n9_; clear n0_ n1_ n2_ n3_ n4_ n5_ n6_ n7_ n8_ n9_; clear hb hbox hg; obtain ⟨Ao26, co26, eo26⟩ := Kd.R_slice HO463.out; subst eo26; have hcz27_0 : w25.cell? ⟨gb471, 0, none⟩ = some (.slice none 0 0) := (blk_cell BK471.out 0).trans rfl; have hcz27_1 : w25.cell? ⟨gb471, 1, none⟩ = some (.slice none 0 0) := (blk_cell BK471.out 1).trans rfl; have hcz27_2 : w25.cell? ⟨gb471, 2, none⟩ = some (.slice none 0 0) := (blk_cell BK471.out 2).trans rfl; have hfz27_0 := blk_frozen BK471.out 0; have hfz27_1 := blk_frozen BK471.out 1; have hfz27_2 := blk_frozen BK471.out 2; obtain ⟨Ao28, co28, eo28⟩ := Kd.R_slice HO466.out; subst eo28; obtain ⟨Ao29, co29, eo29⟩ := Kd.R_slice HO469.out; subst eo29))
    repeat (go_quiet (first | ((with_reducible refine gate_dst (N := 18) rfl ?_); refine Kd.N_lit (Kd.slice 40 (Kd.int .u64)) _ 22 ?hg (N' := 18) ?hd (xs := ([l1, l2] : List (List Int))) (inner := [.slice A1 l1.length c1, .slice A2 l2.length c2]) (ok := (fun k_ => ((P1_ k_ ∨ P2_ k_) ∨ w.heap.size ≤ k_))) (okp := (fun k_ => ((P1_ k_ ∨ P2_ k_) ∨ w.heap.size ≤ k_))) ?hr ?hp (fun _ hk => hk) ((show ∀ k_, w.heap.size ≤ k_ → (fun k_ => ((P1_ k_ ∨ P2_ k_) ∨ w.heap.size ≤ k_)) k_ from fun k_ hk => (.inr (Nat.le_trans (below_size hb_) hk))) _ (Nat.le_refl _)) (Below.refl _ _) (Nat.le_refl _) (by simp) ?_; (case hd => rfl); (case hg => rfl); (case hr => first | (go_simp; done) | (go_simp; rfl)); (case hp => exact (Reps.one (show Kd.FK (Kd.slice 40 (Kd.int .u64)) _ _ l1 [.slice A1 l1.length c1] from (Kd.FK_slice_mk (Kd.V_reads' (Kd.V_mono (ok' := (fun k_ => ((P1_ k_ ∨ P2_ k_) ∨ w.heap.size ≤ k_))) (HO1.out) (fun k_ hk => hk))).2.1 (Kd.V_F (Kd.V_mono (ok' := (fun k_ => ((P1_ k_ ∨ P2_ k_) ∨ w.heap.size ≤ k_))) (HO1.out) (fun k_ hk => hk))))) (Reps.one (show Kd.FK (Kd.slice 40 (Kd.int .u64)) _ _ l2 [.slice A2 l2.length c2] from (Kd.FK_slice_mk (Kd.V_reads' (Kd.V_mono (ok' := (fun k_ => ((P1_ k_ ∨ P2_ k_) ∨ w.heap.size ≤ k_))) (HO2.out) (fun k_ hk => hk))).2.1 (Kd.V_F (Kd.V_mono (ok' := (fun k_ => ((P1_ k_ ∨ P2_ k_) ∨ w.heap.size ≤ k_))) (HO2.out) (fun k_ hk => hk))))) (Reps.none _ _)))); intro v458 w20 ho21 hb hg_ hnew_; clear hg_ hnew_; (first | rw [← Ny457.out] at ho21 | (simp only [Int.reduceToNat] at ho21; rw [← Ny457.out] at ho21)); have n0_ := A_ (Kd.V_below (nV_ HO1) hb); have n1_ := A_ (Kd.V_below (nV_ HO2) hb); have n2_ := A_ (Kd.N_lower ho21 (below_size hb_)); have n3_ := A_ (below_step hb_ hb); clear HO1 HO2 HB; have HO1 := n0_; have HO2 := n1_; have HO459 := n2_; have HB := n3_; clear n0_ n1_ n2_ n3_; clear hb ho21; obtain ⟨Ao22, co22, eo22⟩ := Kd.N_slice HO459.out; subst eo22) | (go_at_call 27; (with_reducible refine (euclid_may.calls k a0 _ _ y457 t460 _ ?side1 ?side2 A6.out).mono ?_); (case side1 => repeat (first | exact (Kd.N_reads' HO459.out).2.2 | (with_reducible refine Kd.C_alloc ?_ _) | (with_reducible refine Kd.C_drewN ?_ _) | (with_reducible refine Kd.C_drew ?_))); (case side2 => exact (Kd.N_reads' HO459.out).2.1); rintro e w23 ⟨rfl, hb⟩; have n0_ := A_ (Kd.V_below (nV_ HO1) hb); have n1_ := A_ (Kd.V_below (nV_ HO2) hb); have n2_ := A_ (Kd.N_below (nN_ HO459) hb); have n3_ := A_ (below_step hb_ hb); clear HO1 HO2 HO459 HB; have HO1 := n0_; have HO2 := n1_; have HO459 := n2_; have HB := n3_; clear n0_ n1_ n2_ n3_; (try clear hb); (try clear hb2); (try clear hk); (try clear hi)) | (go_at_call 34; (with_reducible refine (euclid_partial.calls k a0 _ _ l1 _ _ l2 a3 t461 t464 t467 t470 _ ?side1 ?side2 ?side3 ?side4 A8.out).mono ?_); (case side1 => repeat (first | exact (Kd.V_reads' HO1.out).2.2 | (with_reducible refine Kd.C_alloc ?_ _) | (with_reducible refine Kd.C_drewN ?_ _) | (with_reducible refine Kd.C_drew ?_))); (case side2 => exact (Kd.V_reads' HO1.out).2.1); (case side3 => repeat (first | exact (Kd.V_reads' HO2.out).2.2 | (with_reducible refine Kd.C_alloc ?_ _) | (with_reducible refine Kd.C_drewN ?_ _) | (with_reducible refine Kd.C_drew ?_))); (case side4 => exact (Kd.V_reads' HO2.out).2.1); rintro e w24 ⟨v462, v465, v468, rfl, ho0, ho1, ho2, hb⟩; have n0_ := A_ (Kd.V_below (nV_ HO1) hb); have n1_ := A_ (Kd.V_below (nV_ HO2) hb); have n2_ := A_ (Kd.N_below (nN_ HO459) hb); have n3_ := A_ (Kd.R_lower (Kd.R_newM (M := fun k_ => (w.heap.size ≤ k_)) (Kd.R_mono (ok' := fun _ => True) ho0 (fun _ _ => trivial)) (below_size hb_) (fun k_ h_ => h_)) (below_size hb_)); have n4_ := A_ (Kd.R_lower (Kd.R_newM (M := fun k_ => (w.heap.size ≤ k_)) (Kd.R_mono (ok' := fun _ => True) ho1 (fun _ _ => trivial)) (below_size hb_) (fun k_ h_ => h_)) (below_size hb_)); have n5_ := A_ (Kd.R_lower (Kd.R_newM (M := fun k_ => (w.heap.size ≤ k_)) (Kd.R_mono (ok' := fun _ => True) ho2 (fun _ _ => trivial)) (below_size hb_) (fun k_ h_ => h_)) (below_size hb_)); have n6_ := A_ (below_step hb_ hb); clear HO1 HO2 HO459 HB; have HO1 := n0_; have HO2 := n1_; have HO459 := n2_; have HO463 := n3_; have HO466 := n4_; have HO469 := n5_; have HB := n6_; clear n0_ n1_ n2_ n3_ n4_ n5_ n6_; (try clear hb); (try clear hb2); (try clear hk); (try clear hi); (try clear ho0); (try clear ho1); (try clear ho2)) | ((with_reducible refine gate_dst (N := 12) rfl ?_); refine box_event ?hg (N := 12) ?hd (cs := #[.slice none 0 0, .slice none 0 0, .slice none 0 0]) (t := 61) ?hr ?_; (case hd => rfl); (case hg => rfl); (case hr => first | (go_simp; done) | (go_simp; rfl)); intro gb471 hg w25 hbox hb; have n0_ := A_ (Kd.V_below (Kd.V_elderB (nV_ HO1) gb471 (Nat.le_of_eq hg.symm)) hb); have n1_ := A_ (Kd.V_below (Kd.V_elderB (nV_ HO2) gb471 (Nat.le_of_eq hg.symm)) hb); have n2_ := A_ (Kd.N_below (Kd.N_elderB (nN_ HO459) gb471 (Nat.le_of_eq hg.symm)) hb); have n3_ := A_ (Kd.R_below (nR_ HO463) hb); have n4_ := A_ (Kd.R_below (nR_ HO466) hb); have n5_ := A_ (Kd.R_below (nR_ HO469) hb); have n6_ := A_ (below_step hb_ hb); have n7_ := A_ (hbox); have n8_ := A_ ((by rw [hg]; exact (below_size hb_) : w.heap.size ≤ gb471)); have n9_ := A_ ((by rw [hg]; exact (below_size hb_) : w.heap.size ≤ gb471)); clear HO1 HO2 HO459 HO463 HO466 HO469 HB; have HO1 := n0_; have HO2 := n1_; have HO459 := n2_; have HO463 := n3_; have HO466 := n4_; have HO469 := n5_; have HB := n6_; have BK471 := n7_; have GW471 := n8_; have GE471 := n9_; clear n0_ n1_ n2_ n3_ n4_ n5_ n6_ n7_ n8_ n9_; clear hb hbox hg; obtain ⟨Ao26, co26, eo26⟩ := Kd.R_slice HO463.out; subst eo26; have hcz27_0 : w25.cell? ⟨gb471, 0, none⟩ = some (.slice none 0 0) := (blk_cell BK471.out 0).trans rfl; have hcz27_1 : w25.cell? ⟨gb471, 1, none⟩ = some (.slice none 0 0) := (blk_cell BK471.out 1).trans rfl; have hcz27_2 : w25.cell? ⟨gb471, 2, none⟩ = some (.slice none 0 0) := (blk_cell BK471.out 2).trans rfl; have hfz27_0 := blk_frozen BK471.out 0; have hfz27_1 := blk_frozen BK471.out 1; have hfz27_2 := blk_frozen BK471.out 2; obtain ⟨Ao28, co28, eo28⟩ := Kd.R_slice HO466.out; subst eo28; obtain ⟨Ao29, co29, eo29⟩ := Kd.R_slice HO469.out; subst eo29)); try go_wp2_with (first | ((with_reducible refine gate_dst (N := 18) rfl ?_); refine Kd.N_lit (Kd.slice 40 (Kd.int .u64)) _ 22 ?hg (N' := 18) ?hd (xs := ([l1, l2] : List (List Int))) (inner := [.slice A1 l1.length c1, .slice A2 l2.length c2]) (ok := (fun k_ => ((P1_ k_ ∨ P2_ k_) ∨ w.heap.size ≤ k_))) (okp := (fun k_ => ((P1_ k_ ∨ P2_ k_) ∨ w.heap.size ≤ k_))) ?hr ?hp (fun _ hk => hk) ((show ∀ k_, w.heap.size ≤ k_ → (fun k_ => ((P1_ k_ ∨ P2_ k_) ∨ w.heap.size ≤ k_)) k_ from fun k_ hk => (.inr (Nat.le_trans (below_size hb_) hk))) _ (Nat.le_refl _)) (Below.refl _ _) (Nat.le_refl _) (by simp) ?_; (case hd => rfl); (case hg => rfl); (case hr => first | (go_simp; done) | (go_simp; rfl)); (case hp => exact (Reps.one (show Kd.FK (Kd.slice 40 (Kd.int .u64)) _ _ l1 [.slice A1 l1.length c1] from (Kd.FK_slice_mk (Kd.V_reads' (Kd.V_mono (ok' := (fun k_ => ((P1_ k_ ∨ P2_ k_) ∨ w.heap.size ≤ k_))) (HO1.out) (fun k_ hk => hk))).2.1 (Kd.V_F (Kd.V_mono (ok' := (fun k_ => ((P1_ k_ ∨ P2_ k_) ∨ w.heap.size ≤ k_))) (HO1.out) (fun k_ hk => hk))))) (Reps.one (show Kd.FK (Kd.slice 40 (Kd.int .u64)) _ _ l2 [.slice A2 l2.length c2] from (Kd.FK_slice_mk (Kd.V_reads' (Kd.V_mono (ok' := (fun k_ => ((P1_ k_ ∨ P2_ k_) ∨ w.heap.size ≤ k_))) (HO2.out) (fun k_ hk => hk))).2.1 (Kd.V_F (Kd.V_mono (ok' := (fun k_ => ((P1_ k_ ∨ P2_ k_) ∨ w.heap.size ≤ k_))) (HO2.out) (fun k_ hk => hk))))) (Reps.none _ _)))); intro v458 w20 ho21 hb hg_ hnew_; clear hg_ hnew_; (first | rw [← Ny457.out] at ho21 | (simp only [Int.reduceToNat] at ho21; rw [← Ny457.out] at ho21)); have n0_ := A_ (Kd.V_below (nV_ HO1) hb); have n1_ := A_ (Kd.V_below (nV_ HO2) hb); have n2_ := A_ (Kd.N_lower ho21 (below_size hb_)); have n3_ := A_ (below_step hb_ hb); clear HO1 HO2 HB; have HO1 := n0_; have HO2 := n1_; have HO459 := n2_; have HB := n3_; clear n0_ n1_ n2_ n3_; clear hb ho21; obtain ⟨Ao22, co22, eo22⟩ := Kd.N_slice HO459.out; subst eo22) | (go_at_call 27; (with_reducible refine (euclid_may.calls k a0 _ _ y457 t460 _ ?side1 ?side2 A6.out).mono ?_); (case side1 => repeat (first | exact (Kd.N_reads' HO459.out).2.2 | (with_reducible refine Kd.C_alloc ?_ _) | (with_reducible refine Kd.C_drewN ?_ _) | (with_reducible refine Kd.C_drew ?_))); (case side2 => exact (Kd.N_reads' HO459.out).2.1); rintro e w23 ⟨rfl, hb⟩; have n0_ := A_ (Kd.V_below (nV_ HO1) hb); have n1_ := A_ (Kd.V_below (nV_ HO2) hb); have n2_ := A_ (Kd.N_below (nN_ HO459) hb); have n3_ := A_ (below_step hb_ hb); clear HO1 HO2 HO459 HB; have HO1 := n0_; have HO2 := n1_; have HO459 := n2_; have HB := n3_; clear n0_ n1_ n2_ n3_; (try clear hb); (try clear hb2); (try clear hk); (try clear hi)) | (go_at_call 34; (with_reducible refine (euclid_partial.calls k a0 _ _ l1 _ _ l2 a3 t461 t464 t467 t470 _ ?side1 ?side2 ?side3 ?side4 A8.out).mono ?_); (case side1 => repeat (first | exact (Kd.V_reads' HO1.out).2.2 | (with_reducible refine Kd.C_alloc ?_ _) | (with_reducible refine Kd.C_drewN ?_ _) | (with_reducible refine Kd.C_drew ?_))); (case side2 => exact (Kd.V_reads' HO1.out).2.1); (case side3 => repeat (first | exact (Kd.V_reads' HO2.out).2.2 | (with_reducible refine Kd.C_alloc ?_ _) | (with_reducible refine Kd.C_drewN ?_ _) | (with_reducible refine Kd.C_drew ?_))); (case side4 => exact (Kd.V_reads' HO2.out).2.1); rintro e w24 ⟨v462, v465, v468, rfl, ho0, ho1, ho2, hb⟩; have n0_ := A_ (Kd.V_below (nV_ HO1) hb); have n1_ := A_ (Kd.V_below (nV_ HO2) hb); have n2_ := A_ (Kd.N_below (nN_ HO459) hb); have n3_ := A_ (Kd.R_lower (Kd.R_newM (M := fun k_ => (w.heap.size ≤ k_)) (Kd.R_mono (ok' := fun _ => True) ho0 (fun _ _ => trivial)) (below_size hb_) (fun k_ h_ => h_)) (below_size hb_)); have n4_ := A_ (Kd.R_lower (Kd.R_newM (M := fun k_ => (w.heap.size ≤ k_)) (Kd.R_mono (ok' := fun _ => True) ho1 (fun _ _ => trivial)) (below_size hb_) (fun k_ h_ => h_)) (below_size hb_)); have n5_ := A_ (Kd.R_lower (Kd.R_newM (M := fun k_ => (w.heap.size ≤ k_)) (Kd.R_mono (ok' := fun _ => True) ho2 (fun _ _ => trivial)) (below_size hb_) (fun k_ h_ => h_)) (below_size hb_)); have n6_ := A_ (below_step hb_ hb); clear HO1 HO2 HO459 HB; have HO1 := n0_; have HO2 := n1_; have HO459 := n2_; have HO463 := n3_; have HO466 := n4_; have HO469 := n5_; have HB := n6_; clear n0_ n1_ n2_ n3_ n4_ n5_ n6_; (try clear hb); (try clear hb2); (try clear hk); (try clear hi); (try clear ho0); (try clear ho1); (try clear ho2)) | ((with_reducible refine gate_dst (N := 12) rfl ?_); refine box_event ?hg (N := 12) ?hd (cs := #[.slice none 0 0, .slice none 0 0, .slice none 0 0]) (t := 61) ?hr ?_; (case hd => rfl); (case hg => rfl); (case hr => first | (go_simp; done) | (go_simp; rfl)); intro gb471 hg w25 hbox hb; have n0_ := A_ (Kd.V_below (Kd.V_elderB (nV_ HO1) gb471 (Nat.le_of_eq hg.symm)) hb); have n1_ := A_ (Kd.V_below (Kd.V_elderB (nV_ HO2) gb471 (Nat.le_of_eq hg.symm)) hb); have n2_ := A_ (Kd.N_below (Kd.N_elderB (nN_ HO459) gb471 (Nat.le_of_eq hg.symm)) hb); have n3_ := A_ (Kd.R_below (nR_ HO463) hb); have n4_ := A_ (Kd.R_below (nR_ HO466) hb); have n5_ := A_ (Kd.R_below (nR_ HO469) hb); have n6_ := A_ (below_step hb_ hb); have n7_ := A_ (hbox); have n8_ := A_ ((by rw [hg]; exact (below_size hb_) : w.heap.size ≤ gb471)); have n9_ := A_ ((by rw [hg]; exact (below_size hb_) : w.heap.size ≤ gb471)); clear HO1 HO2 HO459 HO463 HO466 HO469 HB; have HO1 := n0_; have HO2 := n1_; have HO459 := n2_; have HO463 := n3_; have HO466 := n4_; have HO469 := n5_; have HB := n6_; have BK471 := n7_; have GW471 := n8_; have GE471 := n9_; clear n0_ n1_ n2_ n3_ n4_ n5_ n6_ n7_ n8_ n9_; clear hb hbox hg; obtain ⟨Ao26, co26, eo26⟩ := Kd.R_slice HO463.out; subst eo26; have hcz27_0 : w25.cell? ⟨gb471, 0, none⟩ = some (.slice none 0 0) := (blk_cell BK471.out 0).trans rfl; have hcz27_1 : w25.cell? ⟨gb471, 1, none⟩ = some (.slice none 0 0) := (blk_cell BK471.out 1).trans rfl; have hcz27_2 : w25.cell? ⟨gb471, 2, none⟩ = some (.slice none 0 0) := (blk_cell BK471.out 2).trans rfl; have hfz27_0 := blk_frozen BK471.out 0; have hfz27_1 := blk_frozen BK471.out 1; have hfz27_2 := blk_frozen BK471.out 2; obtain ⟨Ao28, co28, eo28⟩ := Kd.R_slice HO466.out; subst eo28; obtain ⟨Ao29, co29, eo29⟩ := Kd.R_slice HO469.out; subst eo29)))
    refine bodyPost_ret (results_list (rs := [.tmp 8, .tmp 9, .tmp 10, .tmp 11]) rfl (by simp) (.tmp (.tmp (.tmp (.tmp .nil))))) rfl ?_
    exact ⟨_, _, _, fr_, by first | exact Kd.R_nil _ _ _ _ _ | exact Kd.N_nil _ _ _ _ _ | exact Kd.V_nil _ _ _ _ _ | exact Kd.Q_nil _ _ _ _ _ | exact Kd.S_nil _ _ _ _ _, by first | exact Kd.R_nil _ _ _ _ _ | exact Kd.N_nil _ _ _ _ _ | exact Kd.V_nil _ _ _ _ _ | exact Kd.Q_nil _ _ _ _ _ | exact Kd.S_nil _ _ _ _ _, by first | exact Kd.R_nil _ _ _ _ _ | exact Kd.N_nil _ _ _ _ _ | exact Kd.V_nil _ _ _ _ _ | exact Kd.Q_nil _ _ _ _ _ | exact Kd.S_nil _ _ _ _ _, hs_⟩
  ·rw [if_neg c7] at H
   have c7b0 : (t460 == 0) = false := beq_eq_false_iff_ne.mpr c7
   have c7b1 : (t460 != 0) = true := bne_iff_ne.mpr c7
   simp only [Option.some.injEq, Prod.mk.injEq] at H
   obtain ⟨rfl, rfl, rfl, rfl⟩ := H
   go_enter Try.func21, Try.ntmps21
   go_wp2_with (first | ((with_reducible refine gate_dst (N := 18) rfl ?_); refine Kd.N_lit (Kd.slice 40 (Kd.int .u64)) _ 22 ?hg (N' := 18) ?hd (xs := ([l1, l2] : List (List Int))) (inner := [.slice A1 l1.length c1, .slice A2 l2.length c2]) (ok := (fun k_ => ((P1_ k_ ∨ P2_ k_) ∨ w.heap.size ≤ k_))) (okp := (fun k_ => ((P1_ k_ ∨ P2_ k_) ∨ w.heap.size ≤ k_))) ?hr ?hp (fun _ hk => hk) ((show ∀ k_, w.heap.size ≤ k_ → (fun k_ => ((P1_ k_ ∨ P2_ k_) ∨ w.heap.size ≤ k_)) k_ from fun k_ hk => (.inr (Nat.le_trans (below_size hb_) hk))) _ (Nat.le_refl _)) (Below.refl _ _) (Nat.le_refl _) (by simp) ?_; (case hd => rfl); (case hg => rfl); (case hr => first | (go_simp; done) | (go_simp; rfl)); (case hp => exact (Reps.one (show Kd.FK (Kd.slice 40 (Kd.int .u64)) _ _ l1 [.slice A1 l1.length c1] from (Kd.FK_slice_mk (Kd.V_reads' (Kd.V_mono (ok' := (fun k_ => ((P1_ k_ ∨ P2_ k_) ∨ w.heap.size ≤ k_))) (HO1.out) (fun k_ hk => hk))).2.1 (Kd.V_F (Kd.V_mono (ok' := (fun k_ => ((P1_ k_ ∨ P2_ k_) ∨ w.heap.size ≤ k_))) (HO1.out) (fun k_ hk => hk))))) (Reps.one (show Kd.FK (Kd.slice 40 (Kd.int .u64)) _ _ l2 [.slice A2 l2.length c2] from (Kd.FK_slice_mk (Kd.V_reads' (Kd.V_mono (ok' := (fun k_ => ((P1_ k_ ∨ P2_ k_) ∨ w.heap.size ≤ k_))) (HO2.out) (fun k_ hk => hk))).2.1 (Kd.V_F (Kd.V_mono (ok' := (fun k_ => ((P1_ k_ ∨ P2_ k_) ∨ w.heap.size ≤ k_))) (HO2.out) (fun k_ hk => hk))))) (Reps.none _ _)))); intro v458 w30 ho31 hb hg_ hnew_; clear hg_ hnew_; (first | rw [← Ny457.out] at ho31 | (simp only [Int.reduceToNat] at ho31; rw [← Ny457.out] at ho31)); have n0_ := A_ (Kd.V_below (nV_ HO1) hb); have n1_ := A_ (Kd.V_below (nV_ HO2) hb); have n2_ := A_ (Kd.N_lower ho31 (below_size hb_)); have n3_ := A_ (below_step hb_ hb); clear HO1 HO2 HB; have HO1 := n0_; have HO2 := n1_; have HO459 := n2_; have HB := n3_; clear n0_ n1_ n2_ n3_; clear hb ho31; obtain ⟨Ao32, co32, eo32⟩ := Kd.N_slice HO459.out; subst eo32) | (go_at_call 27; (with_reducible refine (euclid_may.calls k a0 _ _ y457 t460 _ ?side1 ?side2 A6.out).mono ?_); (case side1 => repeat (first | exact (Kd.N_reads' HO459.out).2.2 | (with_reducible refine Kd.C_alloc ?_ _) | (with_reducible refine Kd.C_drewN ?_ _) | (with_reducible refine Kd.C_drew ?_))); (case side2 => exact (Kd.N_reads' HO459.out).2.1); rintro e w33 ⟨rfl, hb⟩; have n0_ := A_ (Kd.V_below (nV_ HO1) hb); have n1_ := A_ (Kd.V_below (nV_ HO2) hb); have n2_ := A_ (Kd.N_below (nN_ HO459) hb); have n3_ := A_ (below_step hb_ hb); clear HO1 HO2 HO459 HB; have HO1 := n0_; have HO2 := n1_; have HO459 := n2_; have HB := n3_; clear n0_ n1_ n2_ n3_; (try clear hb); (try clear hb2); (try clear hk); (try clear hi)))
   repeat (go_quiet (first | ((with_reducible refine gate_dst (N := 18) rfl ?_); refine Kd.N_lit (Kd.slice 40 (Kd.int .u64)) _ 22 ?hg (N' := 18) ?hd (xs := ([l1, l2] : List (List Int))) (inner := [.slice A1 l1.length c1, .slice A2 l2.length c2]) (ok := (fun k_ => ((P1_ k_ ∨ P2_ k_) ∨ w.heap.size ≤ k_))) (okp := (fun k_ => ((P1_ k_ ∨ P2_ k_) ∨ w.heap.size ≤ k_))) ?hr ?hp (fun _ hk => hk) ((show ∀ k_, w.heap.size ≤ k_ → (fun k_ => ((P1_ k_ ∨ P2_ k_) ∨ w.heap.size ≤ k_)) k_ from fun k_ hk => (.inr (Nat.le_trans (below_size hb_) hk))) _ (Nat.le_refl _)) (Below.refl _ _) (Nat.le_refl _) (by simp) ?_; (case hd => rfl); (case hg => rfl); (case hr => first | (go_simp; done) | (go_simp; rfl)); (case hp => exact (Reps.one (show Kd.FK (Kd.slice 40 (Kd.int .u64)) _ _ l1 [.slice A1 l1.length c1] from (Kd.FK_slice_mk (Kd.V_reads' (Kd.V_mono (ok' := (fun k_ => ((P1_ k_ ∨ P2_ k_) ∨ w.heap.size ≤ k_))) (HO1.out) (fun k_ hk => hk))).2.1 (Kd.V_F (Kd.V_mono (ok' := (fun k_ => ((P1_ k_ ∨ P2_ k_) ∨ w.heap.size ≤ k_))) (HO1.out) (fun k_ hk => hk))))) (Reps.one (show Kd.FK (Kd.slice 40 (Kd.int .u64)) _ _ l2 [.slice A2 l2.length c2] from (Kd.FK_slice_mk (Kd.V_reads' (Kd.V_mono (ok' := (fun k_ => ((P1_ k_ ∨ P2_ k_) ∨ w.heap.size ≤ k_))) (HO2.out) (fun k_ hk => hk))).2.1 (Kd.V_F (Kd.V_mono (ok' := (fun k_ => ((P1_ k_ ∨ P2_ k_) ∨ w.heap.size ≤ k_))) (HO2.out) (fun k_ hk => hk))))) (Reps.none _ _)))); intro v458 w30 ho31 hb hg_ hnew_; clear hg_ hnew_; (first | rw [← Ny457.out] at ho31 | (simp only [Int.reduceToNat] at ho31; rw [← Ny457.out] at ho31)); have n0_ := A_ (Kd.V_below (nV_ HO1) hb); have n1_ := A_ (Kd.V_below (nV_ HO2) hb); have n2_ := A_ (Kd.N_lower ho31 (below_size hb_)); have n3_ := A_ (below_step hb_ hb); clear HO1 HO2 HB; have HO1 := n0_; have HO2 := n1_; have HO459 := n2_; have HB := n3_; clear n0_ n1_ n2_ n3_; clear hb ho31; obtain ⟨Ao32, co32, eo32⟩ := Kd.N_slice HO459.out; subst eo32) | (go_at_call 27; (with_reducible refine (euclid_may.calls k a0 _ _ y457 t460 _ ?side1 ?side2 A6.out).mono ?_); (case side1 => repeat (first | exact (Kd.N_reads' HO459.out).2.2 | (with_reducible refine Kd.C_alloc ?_ _) | (with_reducible refine Kd.C_drewN ?_ _) | (with_reducible refine Kd.C_drew ?_))); (case side2 => exact (Kd.N_reads' HO459.out).2.1); rintro e w33 ⟨rfl, hb⟩; have n0_ := A_ (Kd.V_below (nV_ HO1) hb); have n1_ := A_ (Kd.V_below (nV_ HO2) hb); have n2_ := A_ (Kd.N_below (nN_ HO459) hb); have n3_ := A_ (below_step hb_ hb); clear HO1 HO2 HO459 HB; have HO1 := n0_; have HO2 := n1_; have HO459 := n2_; have HB := n3_; clear n0_ n1_ n2_ n3_; (try clear hb); (try clear hb2); (try clear hk); (try clear hi))); try go_wp2_with (first | ((with_reducible refine gate_dst (N := 18) rfl ?_); refine Kd.N_lit (Kd.slice 40 (Kd.int .u64)) _ 22 ?hg (N' := 18) ?hd (xs := ([l1, l2] : List (List Int))) (inner := [.slice A1 l1.length c1, .slice A2 l2.length c2]) (ok := (fun k_ => ((P1_ k_ ∨ P2_ k_) ∨ w.heap.size ≤ k_))) (okp := (fun k_ => ((P1_ k_ ∨ P2_ k_) ∨ w.heap.size ≤ k_))) ?hr ?hp (fun _ hk => hk) ((show ∀ k_, w.heap.size ≤ k_ → (fun k_ => ((P1_ k_ ∨ P2_ k_) ∨ w.heap.size ≤ k_)) k_ from fun k_ hk => (.inr (Nat.le_trans (below_size hb_) hk))) _ (Nat.le_refl _)) (Below.refl _ _) (Nat.le_refl _) (by simp) ?_; (case hd => rfl); (case hg => rfl); (case hr => first | (go_simp; done) | (go_simp; rfl)); (case hp => exact (Reps.one (show Kd.FK (Kd.slice 40 (Kd.int .u64)) _ _ l1 [.slice A1 l1.length c1] from (Kd.FK_slice_mk (Kd.V_reads' (Kd.V_mono (ok' := (fun k_ => ((P1_ k_ ∨ P2_ k_) ∨ w.heap.size ≤ k_))) (HO1.out) (fun k_ hk => hk))).2.1 (Kd.V_F (Kd.V_mono (ok' := (fun k_ => ((P1_ k_ ∨ P2_ k_) ∨ w.heap.size ≤ k_))) (HO1.out) (fun k_ hk => hk))))) (Reps.one (show Kd.FK (Kd.slice 40 (Kd.int .u64)) _ _ l2 [.slice A2 l2.length c2] from (Kd.FK_slice_mk (Kd.V_reads' (Kd.V_mono (ok' := (fun k_ => ((P1_ k_ ∨ P2_ k_) ∨ w.heap.size ≤ k_))) (HO2.out) (fun k_ hk => hk))).2.1 (Kd.V_F (Kd.V_mono (ok' := (fun k_ => ((P1_ k_ ∨ P2_ k_) ∨ w.heap.size ≤ k_))) (HO2.out) (fun k_ hk => hk))))) (Reps.none _ _)))); intro v458 w30 ho31 hb hg_ hnew_; clear hg_ hnew_; (first | rw [← Ny457.out] at ho31 | (simp only [Int.reduceToNat] at ho31; rw [← Ny457.out] at ho31)); have n0_ := A_ (Kd.V_below (nV_ HO1) hb); have n1_ := A_ (Kd.V_below (nV_ HO2) hb); have n2_ := A_ (Kd.N_lower ho31 (below_size hb_)); have n3_ := A_ (below_step hb_ hb); clear HO1 HO2 HB; have HO1 := n0_; have HO2 := n1_; have HO459 := n2_; have HB := n3_; clear n0_ n1_ n2_ n3_; clear hb ho31; obtain ⟨Ao32, co32, eo32⟩ := Kd.N_slice HO459.out; subst eo32) | (go_at_call 27; (with_reducible refine (euclid_may.calls k a0 _ _ y457 t460 _ ?side1 ?side2 A6.out).mono ?_); (case side1 => repeat (first | exact (Kd.N_reads' HO459.out).2.2 | (with_reducible refine Kd.C_alloc ?_ _) | (with_reducible refine Kd.C_drewN ?_ _) | (with_reducible refine Kd.C_drew ?_))); (case side2 => exact (Kd.N_reads' HO459.out).2.1); rintro e w33 ⟨rfl, hb⟩; have n0_ := A_ (Kd.V_below (nV_ HO1) hb); have n1_ := A_ (Kd.V_below (nV_ HO2) hb); have n2_ := A_ (Kd.N_below (nN_ HO459) hb); have n3_ := A_ (below_step hb_ hb); clear HO1 HO2 HO459 HB; have HO1 := n0_; have HO2 := n1_; have HO459 := n2_; have HB := n3_; clear n0_ n1_ n2_ n3_; (try clear hb); (try clear hb2); (try clear hk); (try clear hi))))
   refine bodyPost_ret (results_list (rs := [.tmp 8, .tmp 9, .tmp 10, .tmp 11]) rfl (by simp) (.tmp (.tmp (.tmp (.tmp .nil))))) rfl ?_
   exact ⟨_, _, _, fr_, by first | exact Kd.R_nil _ _ _ _ _ | exact Kd.N_nil _ _ _ _ _ | exact Kd.V_nil _ _ _ _ _ | exact Kd.Q_nil _ _ _ _ _ | exact Kd.S_nil _ _ _ _ _, by first | exact Kd.R_nil _ _ _ _ _ | exact Kd.N_nil _ _ _ _ _ | exact Kd.V_nil _ _ _ _ _ | exact Kd.Q_nil _ _ _ _ _ | exact Kd.S_nil _ _ _ _ _, by first | exact Kd.R_nil _ _ _ _ _ | exact Kd.N_nil _ _ _ _ _ | exact Kd.V_nil _ _ _ _ _ | exact Kd.Q_nil _ _ _ _ _ | exact Kd.S_nil _ _ _ _ _, hb_⟩
/-! ### cr1_P: function 39 -/
def cr1_P.f (a0 : Int) : Option (Int) := if a0 = 1 then (some 2013265921) else (if a0 = 2 then (some 18446744069414584321) else (some 0))
set_option maxHeartbeats 8000000 in
set_option maxRecDepth 100000 in
theorem cr1_P.calls (a0 : Int) (r : Int) (w : World) (h : cr1_P.f a0 = some r) :
  Calls Try.prog 39 #[.int .u8 a0] w fun e w' => e = .returned (.int .u64 r) ∧ Drawn0 w w' := by
 have H : (if a0 = 1 then (some 2013265921) else (if a0 = 2 then (some 18446744069414584321) else (some 0))) = some r := h
 clear h
 by_cases c2 : a0 = 1
 ·rw [if_pos c2] at H
  have c2b0 : (a0 == 1) = true := beq_iff_eq.mpr c2
  have c2b1 : (a0 != 1) = false := bne_eq_false_iff_eq.mpr c2
  clear c2
  obtain rfl := Option.some.inj H
  go_enter Try.func39, Try.ntmps39
  go_wp2
  go_ret
  exact ⟨fs_, by repeat (first | exact Drawn0.refl _ | apply Drawn0.step)⟩
 ·rw [if_neg c2] at H
  have c2b0 : (a0 == 1) = false := beq_eq_false_iff_ne.mpr c2
  have c2b1 : (a0 != 1) = true := bne_iff_ne.mpr c2
  by_cases c3 : a0 = 2
  ·rw [if_pos c3] at H
   have c3b0 : (a0 == 2) = true := beq_iff_eq.mpr c3
   have c3b1 : (a0 != 2) = false := bne_eq_false_iff_eq.mpr c3
   clear c3
   obtain rfl := Option.some.inj H
   go_enter Try.func39, Try.ntmps39
   go_wp2
   go_ret
   exact ⟨fs_, by repeat (first | exact Drawn0.refl _ | apply Drawn0.step)⟩
  ·rw [if_neg c3] at H
   have c3b0 : (a0 == 2) = false := beq_eq_false_iff_ne.mpr c3
   have c3b1 : (a0 != 2) = true := bne_iff_ne.mpr c3
   obtain rfl := Option.some.inj H
   go_enter Try.func39, Try.ntmps39
   go_wp2
   go_ret
   exact ⟨fs_, by repeat (first | exact Drawn0.refl _ | apply Drawn0.step)⟩
/-! ### cr1_In: function 40 -/
def cr1_In.l0 : Nat → List Int → Int → Int → Option (Bool)
 | 0, _, _, _ => none
 | k + 1, x1, x5, x6 => if x6 < (x1.length : Int) then (if 0 ≤ x6 then (if (rd x1 x6) ≥ x5 then (some false) else (cr1_In.l0 k x1 x5 (wrap64 (x6 + 1)))) else (none)) else (some (x5 != 0))
def cr1_In.f (k : Nat) (a0 : Int) (l1 : List Int) : Option (Bool) := (cr1_P.f a0).bind fun t472 => (cr1_In.l0 k l1 t472 0)
theorem cr1_In.mono_l : ∀ k, (∀ y0 y1 y2, LeO (cr1_In.l0 k y0 y1 y2) (cr1_In.l0 (k + 1) y0 y1 y2))
 | 0 => fun _ _ _ r h => by simp [cr1_In.l0] at h
 | k + 1 => by
  have ih0 := cr1_In.mono_l k
  ·intro y0 y1 y2
   unfold cr1_In.l0
   repeat' first
   | (with_reducible exact ih0 _ _ _)
   | (with_reducible exact LeO.refl _)
   | (with_reducible exact LeO.none _)
   | (with_reducible refine LeO.ite ?_ ?_)
   | (with_reducible refine LeO.bind ?_ (fun _ => ?_))
   | exact ih0 _ _ _
   | exact LeO.none _
   | refine LeO.ite ?_ ?_
   | refine LeO.bind ?_ (fun _ => ?_)
theorem cr1_In.mono : ∀ a0 a1 k, LeO (cr1_In.f k a0 a1) (cr1_In.f (k + 1) a0 a1) := by
 intro a0 a1 k
 have ih0 := cr1_In.mono_l k
 unfold cr1_In.f
 repeat' first
   | (with_reducible exact ih0 _ _ _)
   | (with_reducible exact LeO.refl _)
   | (with_reducible exact LeO.none _)
   | (with_reducible refine LeO.ite ?_ ?_)
   | (with_reducible refine LeO.bind ?_ (fun _ => ?_))
   | exact ih0 _ _ _
   | exact LeO.none _
   | refine LeO.ite ?_ ?_
   | refine LeO.bind ?_ (fun _ => ?_)
set_option maxHeartbeats 8000000 in
set_option maxRecDepth 100000 in
theorem cr1_In.calls (k : Nat) (a0 : Int) (A1 : Option Addr) (c1 : Nat) (l1 : List Int) (r : Bool) (w : World) (hr1 : Kd.C (Kd.int .u64) w A1 l1.length l1) (hc1 : l1.length ≤ c1) (h : cr1_In.f k a0 l1 = some r) :
  Calls Try.prog 40 #[.int .u8 a0, .slice A1 l1.length c1] w fun e w' => e = .returned (.bool r) ∧ Drawn0 w w' := by
 have HR1 := Aside0.mk hr1
 have HC1 := Aside0.mk hc1
 clear hr1 hc1
 have H : ((cr1_P.f a0).bind fun t472 => (cr1_In.l0 k l1 t472 0)) = some r := h
 clear h
 replace H := Option.bind_eq_some_iff.mp H
 obtain ⟨t472, A30, H⟩ := H
 replace H : (cr1_In.l0 k l1 t472 0) = some r := H
 have A3 := Aside0.mk A30
 clear A30
 have H' := Aside0.mk H
 clear H
 go_enter Try.func40, Try.ntmps40
 go_wp2_with (first | ((with_reducible refine gate_callee (f := 39) rfl ?_); refine goesM_ (some 8) Try.func39 #[.int .u8 a0] ?_; (with_reducible refine (cr1_P.calls a0 t472 _ A3.out).mono ?_); rintro e w' ⟨rfl, ⟨nd, rfl⟩⟩; refine ⟨_, rfl, ?_⟩))
 go_loopg [6] k (fun kq v6 w' => ∃ (x6_1 : Int), v6 = .int .i64 x6_1 ∧ Aside0 (cr1_In.l0 kq l1 t472 x6_1 = some r) ∧ Aside0 (kq ≤ k) ∧ Drawn0 w w')
 case atStart => exact ⟨(0), (fs_), H', ⟨Nat.le_refl _⟩, by repeat (first | exact Drawn0.refl _ | apply Drawn0.step)⟩
 case round =>
  clear H'
  try clear c1
  try clear p2
  try clear c3
  obtain ⟨x6_1, rfl, HA, HK1, ⟨m1, rfl⟩⟩ := hrel
  cases gk with
  | zero => exact absurd HA.out (by simp [cr1_In.l0])
  | succ k1 =>
   have H := HA.out
   clear HA
   simp only [cr1_In.l0] at H
   by_cases c4 : x6_1 < (l1.length : Int)
   ·rw [if_pos c4] at H
    have c4b0 : decide (x6_1 < (l1.length : Int)) = true := decide_eq_true c4
    clear c4
    by_cases c5 : 0 ≤ x6_1
    ·rw [if_pos c5] at H
     have c5b0 : decide (0 ≤ x6_1) = true := decide_eq_true c5
     clear c5
     have HC6 := Aside0.mk H
     clear H
     have p473 : 0 ≤ (x6_1 : Int) := of_decide_eq_true (by first | (with_reducible assumption) | assumption)
     have q473 : x6_1 < (l1.length : Int) := of_decide_eq_true (by first | (with_reducible assumption) | assumption)
     obtain ⟨ad473, e473, hx473_0⟩ := Kd.at_int HR1.out x6_1 p473 q473
     cases e473
     replace p473 := eq_true p473
     replace q473 := eq_true q473
     go_upto_if 20 with (fail)
     have H := HC6.out
     clear HC6
     by_cases c7 : (rd l1 x6_1) ≥ t472
     ·rw [if_pos c7] at H
      have c7b0 : decide (t472 ≤ (rd l1 x6_1)) = true := decide_eq_true c7
      clear c7
      (first | rw [c7b0] | (simp only [i64_w, i32_w]; first | rw [c7b0]) | skip)
      obtain rfl := Option.some.inj H
      go_wp2
      go_ret
      exact ⟨fs_, by repeat (first | exact Drawn0.refl _ | apply Drawn0.step)⟩
     ·rw [if_neg c7] at H
      have c7b0 : decide (t472 ≤ (rd l1 x6_1)) = false := decide_eq_false c7
      clear c7
      (first | rw [c7b0] | (simp only [i64_w, i32_w]; first | rw [c7b0]) | skip)
      have H' := Aside0.mk H
      clear H
      go_wp2
      go_roundg k1
      case measure => have := HK1.out; omega
      case rel => exact ⟨(wrap64 (x6_1 + 1)), (fs_), H', ⟨by have := HK1.out; omega⟩, by repeat (first | exact Drawn0.refl _ | apply Drawn0.step)⟩
    ·rw [if_neg c5] at H
     exact absurd H (by simp)
   ·rw [if_neg c4] at H
    have c4b0 : decide (x6_1 < (l1.length : Int)) = false := decide_eq_false c4
    clear c4
    obtain rfl := Option.some.inj H
    go_wp2
    go_ret
    exact ⟨fs_, by repeat (first | exact Drawn0.refl _ | apply Drawn0.step)⟩
/-! ### cr3_Bad: function 16 -/
def cr3_Bad.j0 : Nat → List Int → List Int → Bool → Option (Int)
 | 0, _, _, _ => none
 | k + 1, x1, x2, x16 => if x16 = true then (some 2) else (if (x1.length : Int) > 4096 then (some 4) else (if (x2.length : Int) > 4096 then (some 4) else (some 0)))
def cr3_Bad.f (k : Nat) (a0 : Int) (l1 : List Int) (l2 : List Int) : Option (Int) := (cr1_In.f k a0 l1).bind fun t474 => (if t474 = true then ((cr1_In.f k a0 l2).bind fun t475 => (cr3_Bad.j0 k l1 l2 (!t475))) else (cr3_Bad.j0 k l1 l2 true))
theorem cr3_Bad.mono_l : ∀ k, (∀ y0 y1 y2, LeO (cr3_Bad.j0 k y0 y1 y2) (cr3_Bad.j0 (k + 1) y0 y1 y2))
 | 0 => fun _ _ _ r h => by simp [cr3_Bad.j0] at h
 | k + 1 => by
  have ih0 := cr3_Bad.mono_l k
  ·intro y0 y1 y2
   unfold cr3_Bad.j0
   repeat' first
   | (with_reducible exact ih0 _ _ _)
   | (with_reducible exact cr1_In.mono _ _ _)
   | (with_reducible exact LeO.refl _)
   | (with_reducible exact LeO.none _)
   | (with_reducible refine LeO.ite ?_ ?_)
   | (with_reducible refine LeO.bind ?_ (fun _ => ?_))
   | exact ih0 _ _ _
   | exact cr1_In.mono _ _ _
   | exact LeO.none _
   | refine LeO.ite ?_ ?_
   | refine LeO.bind ?_ (fun _ => ?_)
theorem cr3_Bad.mono : ∀ a0 a1 a2 k, LeO (cr3_Bad.f k a0 a1 a2) (cr3_Bad.f (k + 1) a0 a1 a2) := by
 intro a0 a1 a2 k
 have ih0 := cr3_Bad.mono_l k
 unfold cr3_Bad.f
 repeat' first
   | (with_reducible exact ih0 _ _ _)
   | (with_reducible exact cr1_In.mono _ _ _)
   | (with_reducible exact LeO.refl _)
   | (with_reducible exact LeO.none _)
   | (with_reducible refine LeO.ite ?_ ?_)
   | (with_reducible refine LeO.bind ?_ (fun _ => ?_))
   | exact ih0 _ _ _
   | exact cr1_In.mono _ _ _
   | exact LeO.none _
   | refine LeO.ite ?_ ?_
   | refine LeO.bind ?_ (fun _ => ?_)
set_option maxHeartbeats 8000000 in
set_option maxRecDepth 100000 in
theorem cr3_Bad.calls (k : Nat) (a0 : Int) (A1 : Option Addr) (c1 : Nat) (l1 : List Int) (A2 : Option Addr) (c2 : Nat) (l2 : List Int) (r : Int) (w : World) (hr1 : Kd.C (Kd.int .u64) w A1 l1.length l1) (hc1 : l1.length ≤ c1) (hr2 : Kd.C (Kd.int .u64) w A2 l2.length l2) (hc2 : l2.length ≤ c2) (h : cr3_Bad.f k a0 l1 l2 = some r) :
  Calls Try.prog 16 #[.int .u8 a0, .slice A1 l1.length c1, .slice A2 l2.length c2] w fun e w' => e = .returned (.int .i64 r) ∧ Drawn0 w w' := by
 have HR1 := Aside0.mk hr1
 have HC1 := Aside0.mk hc1
 clear hr1 hc1
 have HR2 := Aside0.mk hr2
 have HC2 := Aside0.mk hc2
 clear hr2 hc2
 have H : ((cr1_In.f k a0 l1).bind fun t474 => (if t474 = true then ((cr1_In.f k a0 l2).bind fun t475 => (cr3_Bad.j0 k l1 l2 (!t475))) else (cr3_Bad.j0 k l1 l2 true))) = some r := h
 clear h
 have HC4 := Aside0.mk H
 clear H
 go_enter Try.func16, Try.ntmps16
 go_upto_region 1 with (fail)
 go_cut [16] (fun v16 wc => ∃ (kq : Nat) (x16_3 : Bool), v16 = .bool x16_3 ∧ Aside0 (cr3_Bad.j0 kq l1 l2 x16_3 = some r) ∧ Aside0 (kq ≤ k) ∧ Drawn0 w wc)
 case first =>
  have H := HC4.out
  clear HC4
  replace H := Option.bind_eq_some_iff.mp H
  obtain ⟨t474, A50, H⟩ := H
  replace H : (if t474 = true then ((cr1_In.f k a0 l2).bind fun t475 => (cr3_Bad.j0 k l1 l2 (!t475))) else (cr3_Bad.j0 k l1 l2 true)) = some r := H
  have A5 := Aside0.mk A50
  clear A50
  by_cases c6 : t474 = true
  ·subst c6
   have H1 : ((cr1_In.f k a0 l2).bind fun t475 => (cr3_Bad.j0 k l1 l2 (!t475))) = some r := by rw [if_pos rfl] at H; exact H
   clear H
   have H := H1
   clear H1
   replace H := Option.bind_eq_some_iff.mp H
   obtain ⟨t475, A70, H⟩ := H
   replace H : (cr3_Bad.j0 k l1 l2 (!t475)) = some r := H
   have A7 := Aside0.mk A70
   clear A70
   have H' := Aside0.mk H
   clear H
   go_wp2_with (first | ((with_reducible refine gate_callee (f := 40) rfl ?_); refine goesM_ (some 9) Try.func40 #[.int .u8 a0, .slice A1 l1.length c1] ?_; (with_reducible refine (cr1_In.calls k a0 _ _ l1 true _ ?side1 ?side2 A5.out).mono ?_); (case side1 => exact nC_ HR1.out); (case side2 => exact HC1.out); rintro e w' ⟨rfl, ⟨nd, rfl⟩⟩; refine ⟨_, rfl, ?_⟩) | (go_at_call 40; (with_reducible refine (cr1_In.calls k a0 _ _ l2 t475 _ ?side1 ?side2 A7.out).mono ?_); (case side1 => exact nC_ HR2.out); (case side2 => exact HC2.out); rintro e w' ⟨rfl, ⟨nd, rfl⟩⟩))
   go_meet
   case rel => exact ⟨_, (!t475), (fs_), H', ⟨fo_⟩, by repeat (first | exact Drawn0.refl _ | apply Drawn0.step)⟩
  ·replace c6 := Bool.eq_false_iff.mpr c6
   subst c6
   have H1 : (cr3_Bad.j0 k l1 l2 true) = some r := by rw [if_neg (show ¬ (false = true) by decide)] at H; exact H
   clear H
   have H := H1
   clear H1
   have H' := Aside0.mk H
   clear H
   go_wp2_with (first | ((with_reducible refine gate_callee (f := 40) rfl ?_); refine goesM_ (some 9) Try.func40 #[.int .u8 a0, .slice A1 l1.length c1] ?_; (with_reducible refine (cr1_In.calls k a0 _ _ l1 false _ ?side1 ?side2 A5.out).mono ?_); (case side1 => exact nC_ HR1.out); (case side2 => exact HC1.out); rintro e w' ⟨rfl, ⟨nd, rfl⟩⟩; refine ⟨_, rfl, ?_⟩))
   go_meet
   case rel => exact ⟨_, (true), (fs_), H', ⟨fo_⟩, by repeat (first | exact Drawn0.refl _ | apply Drawn0.step)⟩
 case rest =>
  clear HC4
  try clear c1
  try clear c2
  try clear p2
  try clear c4
  try clear c6
  obtain ⟨kq, x16_3, rfl, HA, HJ3, ⟨mc3, rfl⟩⟩ := hcut
  cases kq with
  | zero => exact absurd HA.out (by simp [cr3_Bad.j0])
  | succ kj3 =>
   have H := HA.out
   clear HA
   simp only [cr3_Bad.j0] at H
   by_cases c8 : x16_3 = true
   ·subst c8
    have H1 : (some 2) = some r := by rw [if_pos rfl] at H; exact H
    clear H
    have H := H1
    clear H1
    obtain rfl := Option.some.inj H
    go_wp2
    go_ret
    exact ⟨fs_, by repeat (first | exact Drawn0.refl _ | apply Drawn0.step)⟩
   ·replace c8 := Bool.eq_false_iff.mpr c8
    subst c8
    have H1 : (if (l1.length : Int) > 4096 then (some 4) else (if (l2.length : Int) > 4096 then (some 4) else (some 0))) = some r := by rw [if_neg (show ¬ (false = true) by decide)] at H; exact H
    clear H
    have H := H1
    clear H1
    by_cases c9 : (l1.length : Int) > 4096
    ·rw [if_pos c9] at H
     have c9b0 : decide (4096 < (l1.length : Int)) = true := decide_eq_true c9
     have c9b1 : decide (4096 < l1.length) = true := decide_eq_true (by omega)
     clear c9
     obtain rfl := Option.some.inj H
     go_wp2
     go_ret
     exact ⟨fs_, by repeat (first | exact Drawn0.refl _ | apply Drawn0.step)⟩
    ·rw [if_neg c9] at H
     have c9b0 : decide (4096 < (l1.length : Int)) = false := decide_eq_false c9
     have c9b1 : decide (4096 < l1.length) = false := decide_eq_false (by omega)
     clear c9
     by_cases c10 : (l2.length : Int) > 4096
     ·rw [if_pos c10] at H
      have c10b0 : decide (4096 < (l2.length : Int)) = true := decide_eq_true c10
      have c10b1 : decide (4096 < l2.length) = true := decide_eq_true (by omega)
      clear c10
      obtain rfl := Option.some.inj H
      go_wp2
      go_ret
      exact ⟨fs_, by repeat (first | exact Drawn0.refl _ | apply Drawn0.step)⟩
     ·rw [if_neg c10] at H
      have c10b0 : decide (4096 < (l2.length : Int)) = false := decide_eq_false c10
      have c10b1 : decide (4096 < l2.length) = false := decide_eq_false (by omega)
      clear c10
      obtain rfl := Option.some.inj H
      go_wp2
      go_ret
      exact ⟨fs_, by repeat (first | exact Drawn0.refl _ | apply Drawn0.step)⟩
/-! ### cr1_Copy: function 44 -/
def cr1_Copy.f (l0 : List Int) : Option (List Int) := (some (([] : List Int) : List Int)).bind fun y476 => (if y476.length + l0.length < 17592186044416 then (some (y476 ++ l0)) else (none))
set_option maxHeartbeats 8000000 in
set_option maxRecDepth 100000 in
theorem cr1_Copy.calls (A0 : Option Addr) (c0 : Nat) (l0 : List Int) (r : List Int) (w : World) (hr0 : Kd.C (Kd.int .u64) w A0 l0.length l0) (hc0 : l0.length ≤ c0) (h : cr1_Copy.f l0 = some r) :
  Calls Try.prog 44 #[.slice A0 l0.length c0] w fun e w' => ∃ v0_ : Value, e = .returned (v0_) ∧ Kd.R (Kd.int .u64) 40 w' w.heap.size (fun _ => True) v0_ r ∧ Below w.heap.size w w' := by
 have HR0 := Aside0.mk hr0
 have HC0 := Aside0.mk hc0
 clear hr0 hc0
 have HB := A_ (Below.refl w.heap.size w)
 have H : ((some (([] : List Int) : List Int)).bind fun y476 => (if y476.length + l0.length < 17592186044416 then (some (y476 ++ l0)) else (none))) = some r := h
 clear h
 obtain ⟨y476, hy476⟩ : ∃ y_ : List Int, y_ = (([] : List Int)) := ⟨_, rfl⟩
 replace H : (if y476.length + l0.length < 17592186044416 then (some (y476 ++ l0)) else (none)) = some r := by first | (rw [hy476]; with_reducible exact H) | (have H2_ := (Option.bind_some _ _).symm.trans H; rw [hy476]; with_reducible exact H2_) | (have H2_ := (Option.bind_some _ _).symm.trans H; with_reducible exact H2_) | with_reducible exact H | (rw [hy476]; exact H) | exact H
 have Ny476 := Aside0.mk hy476
 clear hy476
 by_cases c2 : y476.length + l0.length < 17592186044416
 ·rw [if_pos c2] at H
  have LMc2 := Aside0.mk c2
  clear c2
  obtain ⟨y479, hy479⟩ : ∃ y_ : List Int, y_ = (y476 ++ l0) := ⟨_, rfl⟩
  replace H : (some y479) = some r := by first | (rw [hy479]; with_reducible exact H) | (have H2_ := (Option.bind_some _ _).symm.trans H; rw [hy479]; with_reducible exact H2_) | (have H2_ := (Option.bind_some _ _).symm.trans H; with_reducible exact H2_) | with_reducible exact H | (rw [hy479]; exact H) | exact H
  have Ny479 := Aside0.mk hy479
  clear hy479
  obtain rfl := Option.some.inj H
  go_enter Try.func44, Try.ntmps44
  go_wp2_with (first | ((with_reducible refine gate_dst (N := 3) rfl ?_); refine Kd.R_lit (Kd.int .u64) _ 40 ?hg (N := 3) ?hd (xs := ([] : List Int)) (inner := []) (ok := fun _ => True) (okp := fun _ => True) ?hr ?hp (fun _ hk => hk) trivial (Below.refl _ _) (Nat.le_refl _) (by simp) ?_; (case hd => rfl); (case hg => rfl); (case hr => first | (go_simp; done) | (go_simp; rfl)); (case hp => exact (Reps.none _ _)); intro v477 w3 ho4 hb hg_ hnew_; clear hg_ hnew_; (first | rw [← Ny476.out] at ho4 | (simp only [Int.reduceToNat] at ho4; rw [← Ny476.out] at ho4)); have n0_ := A_ (Kd.R_lower ho4 (below_size hb_)); have n1_ := A_ (below_step hb_ hb); clear HB; have HO478 := n0_; have HB := n1_; clear n0_ n1_; clear hb ho4) | ((with_reducible refine gate_builtin (b := .append) (xs := #[.tmp 3, .tmp 4]) rfl ?_); at_builtin; refine Kd.R_append_rows (Kd.int .u64) (w0 := w) w.heap.size rfl (.tmp 3) (.tmp 4) 22 40 (.int .u64 0) 8 rfl Try.underlying22 info40 rfl (by decide) (by omega) v477 y476 l0 _ _ _ (fun _ => True) (fun _ => False) rfl rfl ?aO ?aR (fun _ _ h => h) (fun _ h => h.elim) ?aF ?aB ?aS ?aL ?_; (case aR => repeat (first | exact (Kd.C_below HR0.out HB.out) | (with_reducible refine Kd.C_alloc ?_ _) | (with_reducible refine Kd.C_drewN ?_ _) | (with_reducible refine Kd.C_drew ?_))); (case aB => exact hb_); (case aF => exact (fun _ _ => trivial)); (case aO => exact (nR_ HO478)); (case aS => exact (below_size hb_)); (case aL => have := LMc2.out; omega); intro v480 w5 ho hb hg hat; rw [← Ny479.out] at ho; have n0_ := A_ (hb); have n1_ := A_ (ho); clear HB HO478; have HB := n0_; have HO481 := n1_; clear n0_ n1_; clear ho hb hg hat))
  go_ret
  exact ⟨_, fr_, nR_ HO481, hb_⟩
 ·rw [if_neg c2] at H
  exact absurd H (by simp)
end Go.Proofs.Yteofgcmgncaojaa.PEuclidRows
